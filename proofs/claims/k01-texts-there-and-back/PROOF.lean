import PyProof.Rows.All
import Wide.All
import OpenK.AllK
import Wide.FinOn
import HandS.ForMost
import HandS.ForExc
import HandS.Wide
import HandS.Conv
import HandS.Deep
import HandS.TupAny
import HandS.SortInts
import HandS.SortRule
import HandS.RaiseMore
import HandS.IsInst
import HandS.Small
import HandS.HeadWalk
import HandS.ExcIs
import HandS.ExcField
import HandS.TryMany
import HandS.Flow
import HandS.TryOnly
import HandS.Defaults
import HandS.ExcInit
import KE.KExcInit
import HandS.Head0
import HandS.Head1
import HandS.Head2
import HandS.HeadEnd
import HandS.HeadHook1
import HandS.HeadHook2
import PyProof.Rows.Walk
import HandS.Text
import KE.KStateDown
import HandS.Base
import HandS.Call
import HandS.Ends
import HandS.More
import HandS.Words
import HandS.WordsExc
import PySem.Challenge.RW_duewrits_k01_texts_there_and_back
section
set_option Elab.async false
set_option linter.all false
set_option maxRecDepth 100000
/-! DvA: a small evaluator for the part of Python that the program and its laws are written in. Values are trees (tuples by value), what may change stands in a store by number. -/
noncomputable section
namespace Dv
open PySem L2

/-! ### values, objects, the store -/
inductive D where
  | non | bl (b : Bool) | int (i : Int) | str (s : Str) | tup (xs : List D) | loc (n : Nat) | rol (xs : List Int) | ktp (xs : List Str)

inductive Ob where
  | lst (xs : List D)
  | dct (kvs : List (Key × D))
  | dtt (kvs : List (List Key × D))
  | ins (c : Nat) (fs : List (Str × D))

abbrev Store := List Ob
abbrev Env := List (Option D)

inductive Out (α : Type) where
  | ok (a : α) (M : Store)
  | exc (c : Nat) (fs : List (Str × D)) (M : Store)
  | bad
namespace Out
def bind {α β : Type} (o : Out α) (f : α → Store → Out β) : Out β := match o with
  | .ok a M => f a M
  | .exc c fs M => .exc c fs M
  | .bad => .bad
@[simp] theorem bind_ok {α β : Type} (a : α) (M : Store) (f : α → Store → Out β) : (Out.ok a M).bind f = f a M := rfl
@[simp] theorem bind_exc {α β : Type} (c : Nat) (fs : List (Str × D)) (M : Store) (f : α → Store → Out β) : (Out.exc c fs M).bind f = .exc c fs M := rfl
@[simp] theorem bind_bad {α β : Type} (f : α → Store → Out β) : (Out.bad : Out α).bind f = .bad := rfl
end Out

/-! ### the text -/
inductive Op where
  | add | sub | mul | fdiv | mod | pow
inductive Co where
  | lt | le | gt | ge | eq | ne | inn | nin | iss | isn
/-- built-in functions and classes that are called by name -/
inductive Bi where
  | len | int | abs | min | max | sum | str | list | tuple | sorted
/-- built-in methods -/
inductive Bm where
  | append | extend | pop | index | split | join | startswith | get
/-- built-in classes that isinstance is asked of -/
inductive Ty where
  | int | bool | str | list | tuple

inductive E where
  | nil | cons (h t : E)
  | var (i : Nat)
  | non | bl (b : Bool) | int (i : Int) | str (s : Str)
  | glb (k : Nat)
  | bin (o : Op) (a b : E)
  | neg (a : E)
  | cmp (o : Co) (a b : E)
  | chn (o p : Co) (a b c : E)
  | ch3 (o p q : Co) (a b c d : E)
  | and (a b : E) | or (a b : E) | not (a : E)
  | ife (c a b : E)
  | tup (es : E) | lst (es : E)
  | dnl (tk : Bool)
  | dsp (es : E)
  | idx (a i : E)
  | slc (a lo hi : E)
  | rev (a : E)
  | fld (a : E) (f : Str)
  | cal (f : Nat) (es : E)
  | mak (c : Nat) (es : E)
  | mth (o : E) (m : Nat) (es : E)
  | bi (b : Bi) (es : E)
  | bm (m : Bm) (o es : E)
  | isi (a : E) (t : Ty)
  | isx (c : Nat)
  | xfd (f : Str)
  | rng (es : E)
  | cmp1 (elt : E) (tg : List Nat) (sole : Bool) (own : List Nat) (it cond : E)

inductive T where
  | nm (i : Nat) | tp (is : List Nat) | sub (o i : E) | att (o : E) (f : Str)

inductive S where
  | nil | cons (h t : S)
  | asg (t : T) (e : E)
  | ex (e : E)
  | ret (e : E) | retN
  | pas
  | ite (c : E) (a b : S)
  | for_ (tg : List Nat) (sole : Bool) (it : E) (body : S)
  | whl (c : E) (body : S)
  | rai (c : Nat) (es : E)
  | tri (body : S) (c : Nat) (nm : Option Nat) (suite : S)

/-! ### operations on values -/
def D.key? : D → Option Key
  | .int i => some (.inl i)
  | .str s => some (.inr s)
  | _ => none
def keyD : Key → D
  | .inl i => .int i
  | .inr s => .str s
def keysOf : List D → Option (List Key)
  | [] => some []
  | d :: r => match d.key?, keysOf r with
    | some k, some ks => some (k :: ks)
    | _, _ => none
/-- scalars -/
def D.sc : D → Bool
  | .non => true | .bl _ => true | .int _ => true | .str _ => true | _ => false
/-- x == y of scalars, as Python has it -/
def eqS : D → D → Bool
  | .non, .non => true
  | .bl a, .bl b => a == b
  | .bl a, .int b => (if a then 1 else 0) == b
  | .int a, .bl b => a == (if b then 1 else 0)
  | .int a, .int b => a == b
  | .str a, .str b => a == b
  | _, _ => false
mutual
/-- the data of a value, by what the numbers of the store stand for -/
def pyO (f : Nat → Option PyData) : D → Option PyData
  | .non => some .none
  | .bl b => some (.bool b)
  | .int i => some (.int i)
  | .str s => some (.str s)
  | .rol xs => some (.list (xs.map PyData.int))
  | .ktp _ => none
  | .tup xs => (pysO f xs).map PyData.tuple
  | .loc n => f n
def pysO (f : Nat → Option PyData) : List D → Option (List PyData)
  | [] => some []
  | d :: r => match pyO f d, pysO f r with
    | some x, some xs => some (x :: xs)
    | _, _ => none
end
/-- lists of the store, to a depth of k -/
def loD (M : Store) : Nat → Nat → Option PyData
  | 0, _ => none
  | k + 1, n => match M[n]? with
    | some (.lst xs) => (pysO (loD M k) xs).map PyData.list
    | _ => none
abbrev py (M : Store) (d : D) : Option PyData := pyO (loD M 4) d
/-- x == y -/
def eqE (M : Store) (x y : D) : Option Bool :=
  if (x.sc && y.sc) = true then some (eqS x y)
  else match py M x, py M y with
    | some d, some e => if (SeqAt.shaped d && SeqAt.shaped e) = true then some (PyData.eqv d e) else none
    | _, _ => none

/-! ### what is read of the store -/
def lstAt (M : Store) (n : Nat) : Option (List D) := match M[n]? with
  | some (.lst xs) => some xs
  | _ => none
/-- the items of a list or a tuple -/
def seqOf (M : Store) : D → Option (List D)
  | .loc n => lstAt M n
  | .tup xs => some xs
  | .rol xs => some (xs.map D.int)
  | _ => none
def intsOf : List D → Option (List Int)
  | [] => some []
  | .int i :: r => (intsOf r).map (i :: ·)
  | _ :: _ => none
def strsOf : List D → Option (List Str)
  | [] => some []
  | .str s :: r => (strsOf r).map (s :: ·)
  | _ :: _ => none
def putD (f : Str) (v : D) : List (Str × D) → List (Str × D)
  | [] => [(f, v)]
  | (g, u) :: r => if g = f then (f, v) :: r else (g, u) :: putD f v r
def valK {κ : Type} [DecidableEq κ] (kvs : List (κ × D)) (k : κ) : Option D := (kvs.find? fun kv => decide (kv.1 = k)).map (·.2)
def putKD {κ : Type} [DecidableEq κ] (kvs : List (κ × D)) (k : κ) (v : D) : List (κ × D) :=
  if (kvs.any fun kv => decide (kv.1 = k)) = true then kvs.map (fun kv => if kv.1 = k then (kv.1, v) else kv) else kvs ++ [(k, v)]
/-- a new object -/
def mk (M : Store) (o : Ob) : Out D := .ok (.loc M.length) (M ++ [o])
def cutD (xs : List D) (lo hi : Option Int) : List D := (xs.drop (HT.sIx xs.length 0 lo)).take (HT.sIx xs.length xs.length hi - HT.sIx xs.length 0 lo)
def truD (M : Store) : D → Option Bool
  | .non => some false
  | .bl b => some b
  | .int i => some (i != 0)
  | .str s => if s.length ≤ sizeLine then some (s.length != 0) else none
  | .tup xs => some (!xs.isEmpty)
  | .rol xs => some (!xs.isEmpty)
  | .ktp _ => none
  | .loc n => match M[n]? with
    | some (.lst xs) => some (!xs.isEmpty)
    | some (.dct kvs) => some (!kvs.isEmpty)
    | _ => none
def ofO {α : Type} (o : Option α) (M : Store) : Out α := match o with
  | some a => .ok a M
  | none => .bad
/-- a list or a tuple of so many items may be made -/
def lstG (M : Store) (xs : List D) : Out D := if xs.length ≤ sizeLine then mk M (.lst xs) else .bad

/-! ### operators -/
def repS (a : Str) (n : Nat) : Str := ⟨(List.replicate n a.cps.toList).flatten.toArray⟩
def binE (o : Op) (M : Store) (x y : D) : Out D := match o, x, y with
  | .add, .int i, .int j => .ok (.int (i + j)) M
  | .add, .str a, .str b => if a.length + b.length ≤ sizeLine then .ok (.str (a ++ b)) M else .bad
  | .add, .tup a, .tup b => if a.length + b.length ≤ sizeLine then .ok (.tup (a ++ b)) M else .bad
  | .add, .loc a, .loc b => match lstAt M a, lstAt M b with
    | some xs, some ys => lstG M (xs ++ ys)
    | _, _ => .bad
  | .sub, .int i, .int j => .ok (.int (i - j)) M
  | .mul, .int i, .int j => if (-18446744073709551616 < i ∧ i < 18446744073709551616) ∨ (-18446744073709551616 < j ∧ j < 18446744073709551616) ∨ i.natAbs.log2 + j.natAbs.log2 < 1000000 then .ok (.int (i * j)) M else .bad
  | .mul, .str a, .int n => if 0 ≤ n ∧ n ≤ 1000 ∧ a.length ≤ 1000 then .ok (.str (repS a n.toNat)) M else .bad
  | .fdiv, .int i, .int j => if 0 < j ∧ j < 18446744073709551616 then .ok (.int (i / j)) M else .bad
  | .mod, .int i, .int j => if 0 < j then .ok (.int (i % j)) M else .bad
  | .pow, .int i, .int j => if 0 ≤ j ∧ j ≤ 1000000 ∧ -18446744073709551616 < i ∧ i < 18446744073709551616 then .ok (.int (i ^ j.toNat)) M else .bad
  | _, _, _ => .bad
def inE (M : Store) (x y : D) : Option Bool := match y with
  | .str z => match x with
    | .str a => match a.cps.toList with
      | [c] => some (decide (c ∈ z.cps.toList))
      | _ => none
    | _ => none
  | .loc n => match M[n]? with
    | some (.lst ys) => if (x.sc && ys.all D.sc) = true then some (ys.any fun y => eqS y x)
      else match py M x, py M (.loc n) with
        | some d, some (.list ds) => if (SeqAt.shaped d && SeqAt.shaped (.list ds)) = true then some (ds.any fun z => PyData.eqv z d) else none
        | _, _ => none
    | some (.dct kvs) => match x.key? with
      | some k => some (valK kvs k).isSome
      | none => none
    | _ => none
  | .tup ys => if (x.sc && ys.all D.sc) = true then some (ys.any fun y => eqS y x) else none
  | .ktp ys => if x.sc = true then some (ys.any fun y => eqS (.str y) x) else none
  | _ => none
def cmpE (o : Co) (M : Store) (x y : D) : Option Bool := match o with
  | .lt => match x, y with
    | .int i, .int j => some (decide (i < j))
    | _, _ => none
  | .le => match x, y with
    | .int i, .int j => some (decide (i ≤ j))
    | _, _ => none
  | .gt => match x, y with
    | .int i, .int j => some (decide (j < i))
    | _, _ => none
  | .ge => match x, y with
    | .int i, .int j => some (decide (j ≤ i))
    | _, _ => none
  | .eq => eqE M x y
  | .ne => (eqE M x y).map (!·)
  | .inn => inE M x y
  | .nin => (inE M x y).map (!·)
  | .iss => match y with
    | .non => some (match x with | .non => true | _ => false)
    | _ => none
  | .isn => match y with
    | .non => some (match x with | .non => false | _ => true)
    | _ => none
def idxE (M : Store) (x i : D) : Option D := match x with
  | .str z => match i with
    | .int i => if z.length ≤ sizeLine then (atI z.cps.toList i).map fun c => .str ⟨#[c]⟩ else none
    | _ => none
  | .tup xs => match i with
    | .int i => atI xs i
    | _ => none
  | .rol xs => match i with
    | .int i => (atI xs i).map D.int
    | _ => none
  | .loc n => match M[n]? with
    | some (.lst xs) => match i with
      | .int i => atI xs i
      | _ => none
    | some (.dct kvs) => match i.key? with
      | some k => valK kvs k
      | none => none
    | some (.dtt kvs) => match i with
      | .tup ks => match keysOf ks with
        | some k => valK kvs k
        | none => none
      | _ => none
    | _ => none
  | _ => none
def slcE (M : Store) (x : D) (lo hi : Option Int) : Out D := match x with
  | .str z => if z.length ≤ sizeLine then .ok (.str (cutS z lo hi)) M else .bad
  | .tup xs => .ok (.tup (cutD xs lo hi)) M
  | .loc n => match lstAt M n with
    | some xs => mk M (.lst (cutD xs lo hi))
    | none => .bad
  | _ => .bad
def isiE (M : Store) (x : D) (t : Ty) : Option Bool := match t, x with
  | .int, .int _ => some true
  | .int, .bl _ => some true
  | .bool, .bl _ => some true
  | .str, .str _ => some true
  | .tuple, .tup _ => some true
  | .list, .loc n => (lstAt M n).map fun _ => true
  | _, .loc n => (lstAt M n).map fun _ => false
  | _, .rol _ => none
  | _, .ktp _ => none
  | _, _ => some false

/-! ### sorted -/
def insI (i : Int) : List Int → List Int
  | [] => [i]
  | j :: r => if i ≤ j then i :: j :: r else j :: insI i r
def sortI : List Int → List Int
  | [] => []
  | i :: r => insI i (sortI r)
/-- pairs of ints, by the first, then by the second -/
def leP (a b : Int × Int) : Bool := decide (a.1 < b.1) || (decide (a.1 = b.1) && decide (a.2 ≤ b.2))
def insP (a : Int × Int) : List (Int × Int) → List (Int × Int)
  | [] => [a]
  | b :: r => if leP a b = true then a :: b :: r else b :: insP a r
def sortP : List (Int × Int) → List (Int × Int)
  | [] => []
  | a :: r => insP a (sortP r)
def pairsOf : List D → Option (List (Int × Int))
  | [] => some []
  | .tup [.int i, .int j] :: r => (pairsOf r).map ((i, j) :: ·)
  | _ :: _ => none
def pairD (p : Int × Int) : D := .tup [.int p.1, .int p.2]
def maxI : List Int → Option Int
  | [] => none
  | i :: r => match maxI r with
    | none => some i
    | some m => some (if m > i then m else i)
def minI : List Int → Option Int
  | [] => none
  | i :: r => match minI r with
    | none => some i
    | some m => some (if m < i then m else i)

/-! ### built-in functions -/
def biE (b : Bi) (M : Store) (vs : List D) : Out D := match b, vs with
  | .len, [.str s] => if s.length ≤ sizeLine then .ok (.int s.length) M else .bad
  | .len, [x] => match seqOf M x with
    | some xs => .ok (.int xs.length) M
    | none => .bad
  | .int, [.int i] => .ok (.int i) M
  | .int, [.bl b] => .ok (.int (if b then 1 else 0)) M
  | .int, [.str s] => match PySem.intText? s with
    | some n => if s.length ≤ 640 then .ok (.int n) M else .bad
    | none => .bad
  | .abs, [.int i] => .ok (.int (if i < 0 then -i else i)) M
  | .min, [.int i, .int j] => .ok (.int (if j < i then j else i)) M
  | .max, [.int i, .int j] => .ok (.int (if j > i then j else i)) M
  | .max, [.loc n] => match (lstAt M n).bind intsOf with
    | some is => ofO ((maxI is).map D.int) M
    | none => .bad
  | .min, [.loc n] => match (lstAt M n).bind intsOf with
    | some is => ofO ((minI is).map D.int) M
    | none => .bad
  | .sum, [.loc n] => match (lstAt M n).bind intsOf with
    | some is => .ok (.int is.sum) M
    | none => .bad
  | .str, [.int i] => if -18446744073709551616 < i ∧ i < 18446744073709551616 then .ok (.str (toString i)) M else .bad
  | .list, [.loc n] => match M[n]? with
    | some (.lst xs) => mk M (.lst xs)
    | some (.dct kvs) => mk M (.lst (kvs.map fun kv => keyD kv.1))
    | _ => .bad
  | .list, [.tup xs] => mk M (.lst xs)
  | .tuple, [.loc n] => match lstAt M n with
    | some xs => .ok (.tup xs) M
    | none => .bad
  | .sorted, [.loc n] => match lstAt M n with
    | some xs => match intsOf xs with
      | some is => mk M (.lst ((sortI is).map D.int))
      | none => match pairsOf xs with
        | some ps => mk M (.lst ((sortP ps).map pairD))
        | none => .bad
    | none => .bad
  | _, _ => .bad
/-- the first place of x in ys -/
def findD (p : D → Bool) : List D → Option Nat
  | [] => none
  | y :: r => if p y = true then some 0 else (findD p r).map (· + 1)
def bmE (m : Bm) (M : Store) (o : D) (vs : List D) : Out D := match m, o, vs with
  | .append, .loc n, [x] => match M[n]? with
    | some (.lst xs) => if xs.length < sizeLine then .ok .non (M.set n (.lst (xs ++ [x]))) else .bad
    | _ => .bad
  | .extend, .loc n, [.loc k] => match M[n]?, M[k]? with
    | some (.lst xs), some (.lst ys) => if xs.length + ys.length ≤ sizeLine then .ok .non (M.set n (.lst (xs ++ ys))) else .bad
    | _, _ => .bad
  | .pop, .loc n, [] => match M[n]? with
    | some (.lst xs) => match xs[xs.length - 1]? with
      | some x => .ok x (M.set n (.lst xs.dropLast))
      | none => .bad
    | _ => .bad
  | .pop, .loc n, [.int i] => match M[n]? with
    | some (.lst xs) => match ixN xs.length i with
      | some k => match xs[k]? with
        | some x => .ok x (M.set n (.lst (xs.eraseIdx k)))
        | none => .bad
      | none => .bad
    | _ => .bad
  | .index, .loc n, [x] => match M[n]? with
    | some (.lst ys) => if (x.sc && ys.all D.sc) = true then
        match findD (fun y => eqS y x) ys with
        | some j => .ok (.int j) M
        | none => .bad
      else .bad
    | _ => .bad
  | .split, .str a, [.str b] => if b.length ≠ 0 ∧ a.length + 2 ≤ sizeLine then mk M (.lst ((Txt.split a b).map D.str)) else .bad
  | .join, .str a, [.loc n] => match (lstAt M n).bind strsOf with
    | some ys => if (ys.map (·.length)).sum + ys.length * a.length ≤ 16777216 then .ok (.str (Txt.join a ys)) M else .bad
    | none => .bad
  | .startswith, .str a, [.str b] => .ok (.bl (Txt.startswith a b)) M
  | .get, .loc n, [x] => match M[n]? with
    | some (.dct kvs) => match x.key? with
      | some k => .ok ((valK kvs k).getD .non) M
      | none => .bad
    | _ => .bad
  | _, _, _ => .bad
/-- what a method is asked of -/
def bmTy (m : Bm) (M : Store) (o : D) : Bool := match m with
  | .append => match o with | .loc n => (lstAt M n).isSome | _ => false
  | .extend => match o with | .loc n => (lstAt M n).isSome | _ => false
  | .pop => match o with | .loc n => (lstAt M n).isSome | _ => false
  | .index => match o with | .loc n => (lstAt M n).isSome | _ => false
  | .split => match o with | .str _ => true | _ => false
  | .join => match o with | .str _ => true | _ => false
  | .startswith => match o with | .str _ => true | _ => false
  | .get => match o with | .loc n => (match M[n]? with | some (.dct _) => true | _ => false) | _ => false
/-- o[i] = v -/
def setE (M : Store) (o i v : D) : Out Unit := match o with
  | .loc n => match M[n]? with
    | some (.lst xs) => match i with
      | .int k => match ixN xs.length k with
        | some j => .ok () (M.set n (.lst (xs.set j v)))
        | none => .bad
      | _ => .bad
    | some (.dct kvs) => match i.key? with
      | some k => if kvs.length < sizeLine then .ok () (M.set n (.dct (putKD kvs k v))) else .bad
      | none => .bad
    | some (.dtt kvs) => match i with
      | .tup ks => match keysOf ks with
        | some k => if kvs.length < sizeLine then .ok () (M.set n (.dtt (putKD kvs k v))) else .bad
        | none => .bad
      | _ => .bad
    | _ => .bad
  | _ => .bad

/-! ### the reading of a text -/
/-- what is known of the module: constants, methods, classes' makers, the order of exceptions' classes; the exception that is handled -/
structure Gl where
  con : Nat → Option D
  mid : Nat → Nat → Option Nat
  ini : Nat → Option Nat
  sub : Nat → Nat → Bool
  exi : Nat → Option (List Str)
  mn : Nat → Str
  fok : Nat → Str → Bool
  isc : Nat → Bool
  xok : Nat → Str → Bool
  xraw : Nat → Bool
abbrev Cl := Nat → List D → Store → Out D
/-- what a loop walks -/
inductive Src where
  | its (xs : List D)          -- written once: a range, a tuple, a text, the script
  | lst (n : Nat) (xs : List D)  -- a list of the store, which must stand
open Classical in
/-- the source stands -/
def Src.stands (s : Src) (M : Store) : Bool := match s with
  | .its _ => true
  | .lst n xs => decide (M[n]? = some (.lst xs))
def Src.items : Src → List D
  | .its xs => xs
  | .lst _ xs => xs
def srcOf (M : Store) : D → Out Src
  | .loc n => match lstAt M n with
    | some xs => .ok (.lst n xs) M
    | none => .bad
  | .tup xs => .ok (.its xs) M
  | .rol xs => .ok (.its (xs.map D.int)) M
  | .str z => .ok (.its (z.cps.toList.map fun c => .str ⟨#[c]⟩)) M
  | _ => .bad
def rngOf (M : Store) : List D → Out Src
  | [.int n] => if -4611686018427387904 ≤ n ∧ n < 4611686018427387904 then .ok (.its ((List.range n.toNat).map fun i => .int (i : Nat))) M else .bad
  | [.int a, .int b] => if -4611686018427387904 ≤ a ∧ a < 4611686018427387904 ∧ -4611686018427387904 ≤ b ∧ b < 4611686018427387904 then .ok (.its ((List.range (b - a).toNat).map fun i => .int (a + (i : Nat)))) M else .bad
  | _ => .bad
/-- several names at once -/
def bindN : List Nat → List D → Env → Option Env
  | [], [], e => some e
  | i :: is, d :: ds, e => bindN is ds (e.set i (some d))
  | _, _, _ => none
/-- the target of a for, of a comprehension -/
def bindT (tg : List Nat) (sole : Bool) (d : D) (e : Env) : Option Env := match sole with
  | true => match tg with
    | [i] => some (e.set i (some d))
    | _ => none
  | false => match d with
    | .tup ds => bindN tg ds e
    | _ => none
def wipeD (e : Env) : List Nat → Env
  | [] => e
  | v :: vs => (wipeD e vs).set v none
/-- no exception leaves -/
def Out.nox {α : Type} (o : Out α) : Out α := match o with
  | .ok a M => .ok a M
  | _ => .bad
@[simp] theorem Out.nox_ok {α : Type} (a : α) (M : Store) : (Out.ok a M).nox = .ok a M := rfl
/-- a comprehension's turns: test, then element -/
def compL (s : Src) (tg : List Nat) (sole : Bool) (e : Env) (tt : Env → Store → Out Bool) (te : Env → Store → Out D) : List D → List D → Store → Out (List D)
  | [], acc, M => if s.stands M = true then .ok acc M else .bad
  | x :: r, acc, M => if s.stands M = true then
      match bindT tg sole x e with
      | some e' => (tt e' M).nox.bind fun b M1 => if b = true then (te e' M1).nox.bind fun d M2 => if acc.length < sizeLine then compL s tg sole e tt te r (acc ++ [d]) M2 else .bad else compL s tg sole e tt te r acc M1
      | none => .bad
    else .bad
def dspPut : List D → List D → List (Key × D) → Option (List (Key × D))
  | [], [], kvs => some kvs
  | k :: ks, v :: vs, kvs => match k.key? with
    | some k => dspPut ks vs (putKD kvs k v)
    | none => none
  | _, _, _ => none
/-- what an expression is worth: as a value, as a test, as a row of arguments, as a part of a slice, as what is walked, as a comprehension's test -/
structure Sem where
  e : Env → Store → Out D
  t : Env → Store → Out Bool
  a : Env → Store → Out (List D)
  p : Env → Store → Out (Option Int)
  i : Env → Store → Out Src
  c : Env → Store → Out Bool
def asInt (M : Store) (x : D) : Out (Option Int) := match x with
  | .int i => .ok (some i) M
  | _ => .bad
def semE (f : Env → Store → Out D) : Sem where
  e := f
  t := fun e M => (f e M).bind fun x M1 => ofO (truD M1 x) M1
  a := fun _ _ => .bad
  p := fun e M => (f e M).bind fun x M1 => asInt M1 x
  i := fun e M => (f e M).bind fun x M1 => srcOf M1 x
  c := fun e M => (f e M).bind fun x M1 => ofO (truD M1 x) M1
/-- with a test of its own -/
def semT (f : Env → Store → Out D) (t : Env → Store → Out Bool) : Sem := { semE f with t := t, c := t }
def pairUp : List D → List D × List D
  | k :: v :: r => (k :: (pairUp r).1, v :: (pairUp r).2)
  | _ => ([], [])
section
variable (G : Gl) (cl : Cl) (cu : Option (Nat × List (Str × D)))
def varE (i : Nat) (e : Env) (M : Store) : Out D := match e[i]? with
  | some (some d) => .ok d M
  | _ => .bad
def negE (M : Store) (x : D) : Out D := match x with
  | .int i => .ok (.int (-i)) M
  | _ => .bad
def andE (x : D) (k : Store → Out D) (M : Store) : Out D := match x with
  | .bl true => k M
  | .bl false => .ok (.bl false) M
  | _ => .bad
def orE (x : D) (k : Store → Out D) (M : Store) : Out D := match x with
  | .bl false => k M
  | .bl true => .ok (.bl true) M
  | _ => .bad
def revE (M : Store) (x : D) : Out D := match x with
  | .loc n => match lstAt M n with
    | some xs => mk M (.lst xs.reverse)
    | none => .bad
  | _ => .bad
def fldE (M : Store) (x : D) (f : Str) : Out D := match x with
  | .loc n => match M[n]? with
    | some (.ins c fs) => if G.fok c f = true then ofO (fs.lookup f) M else .bad
    | _ => .bad
  | _ => .bad
def makE (c : Nat) (vs : List D) (M : Store) : Out D := match G.ini c with
  | some g => (cl g (.loc M.length :: vs) (M ++ [.ins c []])).bind fun v M2 => match v with
    | .non => .ok (.loc M.length) M2
    | _ => .bad
  | none => .bad
/-- the method m of x -/
def mthE (M : Store) (x : D) (m : Nat) : Option Nat := match x with
  | .loc n => match M[n]? with
    | some (.ins c fs) => if (fs.lookup (G.mn m)).isNone = true then G.mid c m else none
    | _ => none
  | _ => none
def dspE (vs : List D) (M : Store) : Out D := match dspPut (pairUp vs).1 (pairUp vs).2 [] with
  | some kvs => if (pairUp vs).1.length ≤ 15 then mk M (.dct kvs) else .bad
  | none => .bad
def isxE (c : Nat) (M : Store) : Out D := match cu with
  | some (k, []) => if G.isc c = true then .ok (.bl (G.sub k c)) M else .bad
  | _ => .bad
def xfdE (f : Str) (M : Store) : Out D := match cu with
  | some (k, fs) => if G.xok k f = true then ofO (fs.lookup f) M else .bad
  | none => .bad
def ev : E → Sem
  | .nil => { semE fun _ _ => .bad with a := fun _ M => .ok [] M, p := fun _ M => .ok none M, c := fun _ M => .ok true M }
  | .cons x y => { semE fun _ _ => .bad with a := fun e M => ((ev x).e e M).bind fun d M1 => ((ev y).a e M1).bind fun ds M2 => .ok (d :: ds) M2 }
  | .rng x => { semE fun _ _ => .bad with i := fun e M => ((ev x).a e M).bind fun vs M1 => rngOf M1 vs }
  | .var i => semE (varE i)
  | .non => semE fun _ M => .ok .non M
  | .bl b => semE fun _ M => .ok (.bl b) M
  | .int i => semE fun _ M => .ok (.int i) M
  | .str s => semE fun _ M => .ok (.str s) M
  | .glb k => semE fun _ M => ofO (G.con k) M
  | .bin o a b => semE fun e M => ((ev a).e e M).bind fun x M1 => ((ev b).e e M1).bind fun y M2 => binE o M2 x y
  | .neg a => semE fun e M => ((ev a).e e M).bind fun x M1 => negE M1 x
  | .cmp o a b => semE fun e M => ((ev a).e e M).bind fun x M1 => ((ev b).e e M1).bind fun y M2 => (ofO (cmpE o M2 x y) M2).bind fun c M3 => .ok (.bl c) M3
  | .chn o p a b c => semE fun e M => ((ev a).e e M).bind fun x M1 => ((ev b).e e M1).bind fun y M2 => (ofO (cmpE o M2 x y) M2).bind fun k M3 =>
      if k = true then ((ev c).e e M3).bind fun z M4 => (ofO (cmpE p M4 y z) M4).bind fun c M5 => .ok (.bl c) M5 else .ok (.bl false) M3
  | .ch3 o p q a b c d => semE fun e M => ((ev a).e e M).bind fun x M1 => ((ev b).e e M1).bind fun y M2 => (ofO (cmpE o M2 x y) M2).bind fun k M3 =>
      if k = true then ((ev c).e e M3).bind fun z M4 => (ofO (cmpE p M4 y z) M4).bind fun k M5 =>
        if k = true then ((ev d).e e M5).bind fun w M6 => (ofO (cmpE q M6 z w) M6).bind fun c M7 => .ok (.bl c) M7 else .ok (.bl false) M5
      else .ok (.bl false) M3
  | .and a b => semT (fun e M => ((ev a).e e M).bind fun x M1 => andE x ((ev b).e e) M1) fun e M => ((ev a).t e M).bind fun x M1 => if x = true then (ev b).t e M1 else .ok false M1
  | .or a b => semT (fun e M => ((ev a).e e M).bind fun x M1 => orE x ((ev b).e e) M1) fun e M => ((ev a).t e M).bind fun x M1 => if x = true then .ok true M1 else (ev b).t e M1
  | .not a => semT (fun e M => ((ev a).e e M).bind fun x M1 => (ofO (truD M1 x) M1).bind fun b M2 => .ok (.bl (!b)) M2) fun e M => ((ev a).t e M).bind fun x M1 => .ok (!x) M1
  | .ife c a b => semT (fun e M => ((ev c).t e M).bind fun t M1 => if t = true then (ev a).e e M1 else (ev b).e e M1) fun e M => ((ev c).t e M).bind fun t M1 => if t = true then (ev a).t e M1 else (ev b).t e M1
  | .tup es => semE fun e M => ((ev es).a e M).bind fun vs M1 => if vs.length ≤ sizeLine then .ok (.tup vs) M1 else .bad
  | .lst es => semE fun e M => ((ev es).a e M).bind fun vs M1 => lstG M1 vs
  | .dnl tk => semE fun _ M => if tk = true then mk M (.dtt []) else mk M (.dct [])
  | .dsp es => semE fun e M => ((ev es).a e M).bind fun vs M1 => dspE vs M1
  | .idx a i => semE fun e M => ((ev a).e e M).bind fun x M1 => ((ev i).e e M1).bind fun y M2 => ofO (idxE M2 x y) M2
  | .slc a lo hi => semE fun e M => ((ev a).e e M).bind fun x M1 => ((ev lo).p e M1).bind fun l M2 => ((ev hi).p e M2).bind fun h M3 => slcE M3 x l h
  | .rev a => semE fun e M => ((ev a).e e M).bind fun x M1 => revE M1 x
  | .fld a f => semE fun e M => ((ev a).e e M).bind fun x M1 => fldE G M1 x f
  | .cal f es => semE fun e M => ((ev es).a e M).bind fun vs M1 => cl f vs M1
  | .mak c es => semE fun e M => ((ev es).a e M).bind fun vs M1 => makE G cl c vs M1
  | .mth o m es => semE fun e M => ((ev o).e e M).bind fun x M1 => match mthE G M1 x m with
    | some g => ((ev es).a e M1).bind fun vs M2 => cl g (x :: vs) M2
    | none => .bad
  | .bi b es => semE fun e M => ((ev es).a e M).bind fun vs M1 => biE b M1 vs
  | .bm m o es => semE fun e M => ((ev o).e e M).bind fun x M1 => if bmTy m M1 x = true then ((ev es).a e M1).bind fun vs M2 => bmE m M2 x vs else .bad
  | .isi a t => semE fun e M => ((ev a).e e M).bind fun x M1 => (ofO (isiE M1 x t) M1).bind fun c M2 => .ok (.bl c) M2
  | .isx c => semE fun _ M => isxE G cu c M
  | .xfd f => semE fun _ M => xfdE G cu f M
  | .cmp1 elt tg sole own it cond => semE fun e M => ((ev it).i e M).bind fun s M1 =>
      (compL s tg sole (wipeD e own) (fun e' M' => (ev cond).c e' M') (fun e' M' => (ev elt).e e' M') s.items [] M1).bind fun xs M2 => lstG M2 xs
abbrev evE (x : E) := (ev G cl cu x).e
abbrev evT (x : E) := (ev G cl cu x).t
abbrev evA (x : E) := (ev G cl cu x).a
abbrev evP (x : E) := (ev G cl cu x).p
abbrev evI (x : E) := (ev G cl cu x).i
abbrev evC (x : E) := (ev G cl cu x).c

end
mutual
/-- no number of the store at or above n -/
def D.und (n : Nat) : D → Bool
  | .tup xs => undL n xs
  | .loc k => decide (k < n)
  | _ => true
def undL (n : Nat) : List D → Bool
  | [] => true
  | d :: r => d.und n && undL n r
end
/-! ### statements -/
/-- how a statement ends -/
inductive Rs where
  | nx (e : Env) (M : Store) | rt (d : D) (M : Store) | exc (c : Nat) (fs : List (Str × D)) (e : Env) (M : Store) | bad
def Out.run {α : Type} (o : Out α) (e : Env) (f : α → Store → Rs) : Rs := match o with
  | .ok a M => f a M
  | .exc c fs M => .exc c fs e M
  | .bad => .bad
@[simp] theorem Out.run_ok {α : Type} (a : α) (M : Store) (e : Env) (f : α → Store → Rs) : (Out.ok a M).run e f = f a M := rfl
@[simp] theorem Out.run_exc {α : Type} (c : Nat) (fs : List (Str × D)) (M : Store) (e : Env) (f : α → Store → Rs) : (Out.exc c fs M : Out α).run e f = .exc c fs e M := rfl
@[simp] theorem Out.run_bad {α : Type} (e : Env) (f : α → Store → Rs) : (Out.bad : Out α).run e f = .bad := rfl
def Rs.andThen (r : Rs) (f : Env → Store → Rs) : Rs := match r with
  | .nx e M => f e M
  | .rt d M => .rt d M
  | .exc c fs e M => .exc c fs e M
  | .bad => .bad
@[simp] theorem Rs.andThen_nx (e : Env) (M : Store) (f : Env → Store → Rs) : (Rs.nx e M).andThen f = f e M := rfl
@[simp] theorem Rs.andThen_rt (d : D) (M : Store) (f : Env → Store → Rs) : (Rs.rt d M).andThen f = .rt d M := rfl
@[simp] theorem Rs.andThen_exc (c : Nat) (fs : List (Str × D)) (e : Env) (M : Store) (f : Env → Store → Rs) : (Rs.exc c fs e M).andThen f = .exc c fs e M := rfl
@[simp] theorem Rs.andThen_bad (f : Env → Store → Rs) : Rs.bad.andThen f = .bad := rfl
/-- o.f = v -/
def attE (G : Gl) (M : Store) (o : D) (f : Str) (v : D) : Out Unit := match o with
  | .loc n => match M[n]? with
    | some (.ins c fs) => if fs.length < 1000 ∧ G.fok c f = true then .ok () (M.set n (.ins c (putD f v fs))) else .bad
    | _ => .bad
  | _ => .bad
section
variable (G : Gl) (cl : Cl)
/-- to a target, behind its value -/
def asgT (cu : Option (Nat × List (Str × D))) (t : T) (v : D) (e : Env) (M : Store) : Rs := match t with
  | .nm i => .nx (e.set i (some v)) M
  | .tp is => match v with
    | .tup ds => match bindN is ds e with
      | some e' => .nx e' M
      | none => .bad
    | _ => .bad
  | .sub o i => (evE G cl cu o e M).run e fun x M1 => (evE G cl cu i e M1).run e fun y M2 => (setE M2 x y v).run e fun _ M3 => .nx e M3
  | .att o f => (evE G cl cu o e M).run e fun x M1 => (attE G M1 x f v).run e fun _ M2 => .nx e M2
/-- a for's turns -/
def forL (s : Src) (tg : List Nat) (sole : Bool) (body : Env → Store → Rs) : List D → Env → Store → Rs
  | [], e, M => if s.stands M = true then .nx e M else .bad
  | x :: r, e, M => if s.stands M = true then
      match bindT tg sole x e with
      | some e' => (body e' M).andThen (forL s tg sole body r)
      | none => .bad
    else .bad
/-- a while's turns -/
def whlL (c : Env → Store → Out Bool) (body : Env → Store → Rs) : Nat → Env → Store → Rs
  | 0, _, _ => .bad
  | n + 1, e, M => (c e M).run e fun b M1 => if b = true then (body e M1).andThen (whlL c body n) else .nx e M1
/-- raise C(..): what the exception bears -/
def raiE (c : Nat) (vs : List D) (e : Env) (M : Store) : Rs := match G.exi c with
  | none => if vs.length = 1 then .exc c [] e M else .bad
  | some fs => if vs.length = fs.length ∧ fs ≠ [] ∧ undL 0 vs = true then .exc c (fs.zip vs).reverse e M else .bad
def endTry (nm : Option Nat) (r : Rs) : Rs := match r with
  | .nx e M => .nx (match nm with | some i => e.set i none | none => e) M
  | .rt d M => .rt d M
  | _ => .bad
def exS : S → Option (Nat × List (Str × D)) → Env → Store → Rs
  | .nil, _, e, M => .nx e M
  | .cons x y, cu, e, M => (exS x cu e M).andThen (exS y cu)
  | .asg t x, cu, e, M => (evE G cl cu x e M).run e fun v M1 => asgT G cl cu t v e M1
  | .ex x, cu, e, M => (evE G cl cu x e M).run e fun _ M1 => .nx e M1
  | .ret x, cu, e, M => (evE G cl cu x e M).run e fun v M1 => .rt v M1
  | .retN, _, _, M => .rt .non M
  | .pas, _, e, M => .nx e M
  | .ite c a b, cu, e, M => (evT G cl cu c e M).run e fun t M1 => if t = true then exS a cu e M1 else exS b cu e M1
  | .for_ tg sole it body, cu, e, M => (evI G cl cu it e M).run e fun s M1 => forL s tg sole (exS body cu) s.items e M1
  | .whl c body, cu, e, M => whlL (evT G cl cu c) (exS body cu) 100000 e M
  | .rai c es, cu, e, M => (evA G cl cu es e M).run e fun vs M1 => raiE G c vs e M1
  | .tri body c nm suite, cu, e, M => match exS body cu e M with
    | .exc k fs e1 M1 => if G.isc k = true then
        if G.sub k c = true then endTry nm (exS suite (match nm with | some _ => some (k, fs) | none => none) (match nm with | some i => e1.set i none | none => e1) M1) else .exc k fs e1 M1
      else .bad
    | r => r
end

/-! ### a call's end: what no one holds any more is let go -/
def Ob.und (n : Nat) : Ob → Bool
  | .lst xs => undL n xs
  | .dct kvs => kvs.all fun kv => kv.2.und n
  | .dtt kvs => kvs.all fun kv => kv.2.und n
  | .ins _ fs => fs.all fun kv => kv.2.und n
mutual
/-- the numbers at or above n, in order -/
def D.locs (n : Nat) : D → List Nat
  | .tup xs => locsL n xs
  | .loc k => if k < n then [] else [k]
  | _ => []
def locsL (n : Nat) : List D → List Nat
  | [] => []
  | d :: r => d.locs n ++ locsL n r
end
def Ob.locs (n : Nat) : Ob → List Nat
  | .lst xs => locsL n xs
  | .dct kvs => locsL n (kvs.map (·.2))
  | .dtt kvs => locsL n (kvs.map (·.2))
  | .ins _ fs => locsL n (fs.map (·.2))
mutual
/-- renumbered -/
def D.ren (f : Nat → Nat) : D → D
  | .tup xs => .tup (renL f xs)
  | .loc k => .loc (f k)
  | d => d
def renL (f : Nat → Nat) : List D → List D
  | [] => []
  | d :: r => d.ren f :: renL f r
end
def Ob.ren (f : Nat → Nat) : Ob → Ob
  | .lst xs => .lst (renL f xs)
  | .dct kvs => .dct (kvs.map fun kv => (kv.1, kv.2.ren f))
  | .dtt kvs => .dtt (kvs.map fun kv => (kv.1, kv.2.ren f))
  | .ins c fs => .ins c (fs.map fun kv => (kv.1, kv.2.ren f))
/-- one more round of what is reached -/
def grow (n : Nat) (M : Store) (R : List Nat) : List Nat := (R ++ R.flatMap fun m => match M[m]? with | some o => o.locs n | none => []).eraseDups
/-- where the m of R come to stand -/
def renF (n : Nat) (R : List Nat) (m : Nat) : Nat := if m < n then m else n + R.idxOf m
open Classical in
/-- the old part holds nothing new that is not its own as it was -/
def oldOk (M M1 : Store) : Bool := decide (M.length ≤ M1.length ∧ ∀ i o, i < M.length → M1[i]? = some o → M[i]? = some o ∨ o.und M.length = true)
/-- what is kept of the new part: R, closed -/
def keepsR (n : Nat) (M1 : Store) (R : List Nat) : Bool := decide R.Nodup && R.all fun m => decide (n ≤ m) && match M1[m]? with
  | some o => (o.locs n).all fun k => R.contains k
  | none => false
def fin (M : Store) (d : D) (M1 : Store) : Out D :=
  if oldOk M M1 = true then
    let R := grow M.length M1 (grow M.length M1 (d.locs M.length).eraseDups)
    if (keepsR M.length M1 R && (d.locs M.length).all fun k => R.contains k) = true then
      .ok (d.ren (renF M.length R)) (M1.take M.length ++ R.filterMap fun m => (M1[m]?).map fun o => o.ren (renF M.length R))
    else .ok d M1
  else .ok d M1

/-! ### defs -/
structure Def where
  np : Nat   -- parameters
  ns : Nat   -- names in all
  body : S
/-- called with n calls deep to go -/
def callN (G : Gl) (P : Nat → Option Def) : Nat → Cl
  | 0, _, _, _ => .bad
  | n + 1, f, vs, M => match P f with
    | some d => if vs.length = d.np then
        match exS G (callN G P n) d.body none (vs.map some ++ List.replicate (d.ns - vs.length) none) M with
        | .nx _ M1 => fin M .non M1
        | .rt v M1 => fin M v M1
        | .exc c fs _ M1 => if oldOk M M1 = true ∧ (fs.all fun kv => kv.2.und 0) = true then .exc c fs (M1.take M.length) else .bad
        | .bad => .bad
      else .bad
    | none => .bad
end Dv
end
end

section
set_option Elab.async false
set_option autoImplicit false
set_option linter.all false
set_option maxRecDepth 100000
set_option maxHeartbeats 2000000
/-! DvB: what ties the evaluator's values and store to the abstract heap. -/
namespace Dv
open PySem L2

/-! ### values -/
/-- a list that is read and never written -/
def FrzL (K : PySem.W.Frag) (H : Hp) (a : Addr) (xs : List V) : Prop :=
  (∃ o, H a = some (.frz o (.lst xs))) ∨
    ∃ (o : Obj) (its : Array Value) (n : Nat), K.lookup a = some o ∧ o.cls = .type "list" ∧ o.dict = none ∧ o.data = .seq its n ∧ its.size ≤ sizeLine ∧ Vals xs its.toList
theorem FrzL.sq {K : PySem.W.Frag} {H : Hp} {a : Addr} {xs : List V} (h : FrzL K H a xs) : SqL K H a xs := by
  rcases h with ⟨o, h⟩ | h
  · exact .inl (.inr ⟨o, h⟩)
  · exact .inr h
/-- a tuple of the module's top -/
def KTup (K : PySem.W.Frag) (a : Addr) (xs : List V) : Prop :=
  ∃ (o : Obj) (its : Array Value) (n : Nat), K.lookup a = some o ∧ o.cls = .type "tuple" ∧ o.data = .seq its n ∧ its.size ≤ sizeLine ∧ Vals xs its.toList
mutual
def RV (K : PySem.W.Frag) (H : Hp) (ρ : List Addr) : D → V → Prop
  | .non, v => v = .non
  | .bl b, v => v = .bl b
  | .int i, v => v = .int i
  | .str s, v => v = .str s
  | .tup ds, v => ∃ t vs, v = .ref t ∧ H t = some (.tup vs) ∧ RVs K H ρ ds vs
  | .ktp xs, v => ∃ a, v = .ref a ∧ KTup K a (xs.map V.str)
  | .loc n, v => ∃ a, ρ[n]? = some a ∧ v = .ref a
  | .rol xs, v => ∃ a, v = .ref a ∧ FrzL K H a (xs.map V.int)
def RVs (K : PySem.W.Frag) (H : Hp) (ρ : List Addr) : List D → List V → Prop
  | [], vs => vs = []
  | d :: ds, vs => ∃ v r, vs = v :: r ∧ RV K H ρ d v ∧ RVs K H ρ ds r
end
/-- an object of the store, at an address -/
def RO (CA : Nat → Addr) (K : PySem.W.Frag) (H : Hp) (ρ : List Addr) : Ob → HO → Prop
  | .lst ds, h => ∃ vs, h = .lst vs ∧ RVs K H ρ ds vs
  | .dct kvs, h => ∃ ws, h = .dK ws ∧ ws.map (·.1) = kvs.map (·.1) ∧ RVs K H ρ (kvs.map (·.2)) (ws.map (·.2))
  | .dtt kvs, h => ∃ ws, h = .dT ws ∧ ws.map (·.1) = kvs.map (·.1) ∧ RVs K H ρ (kvs.map (·.2)) (ws.map (·.2))
  | .ins c fs, h => ∃ dx ws, h = .ins (CA c) dx ws ∧ ws.map (·.1) = fs.map (·.1) ∧ RVs K H ρ (fs.map (·.2)) (ws.map (·.2))
structure RS (CA : Nat → Addr) (K : PySem.W.Frag) (H : Hp) (ρ : List Addr) (M : Store) : Prop where
  len : ρ.length = M.length
  nd : ρ.Nodup
  at_ : ∀ (n : Nat) (o : Ob), M[n]? = some o → ∃ a h, ρ[n]? = some a ∧ H a = some h ∧ RO CA K H ρ o h
/-- what has become of the heap -/
structure St8 (H : Hp) (ρ : List Addr) (H' : Hp) (ρ' : List Addr) : Prop where
  pre : ρ <+: ρ'
  frm : ∀ a o, H a = some o → a ∉ ρ → H' a = some o
  new : ∀ a, a ∈ ρ' → a ∈ ρ ∨ H a = none
theorem St8.refl (H : Hp) (ρ : List Addr) : St8 H ρ H ρ := ⟨List.prefix_refl _, fun _ _ h _ => h, fun _ h => .inl h⟩
theorem St8.trans {H H1 H2 : Hp} {ρ ρ1 ρ2 : List Addr} (a : St8 H ρ H1 ρ1) (b : St8 H1 ρ1 H2 ρ2) : St8 H ρ H2 ρ2 := by
  refine ⟨a.pre.trans b.pre, fun x o h n => b.frm x o (a.frm x o h n) fun m => ?_, fun x m => ?_⟩
  · rcases a.new x m with z | z
    · exact n z
    · rw [z] at h; cases h
  · rcases b.new x m with z | z
    · exact a.new x z
    · by_cases hx : x ∈ ρ
      · exact .inl hx
      · refine .inr ?_
        cases q : H x with
        | none => rfl
        | some o => rw [a.frm x o q hx] at z; cases z
theorem prefix_get {ρ ρ' : List Addr} (h : ρ <+: ρ') {n : Nat} {a : Addr} (e : ρ[n]? = some a) : ρ'[n]? = some a := by
  obtain ⟨t, rfl⟩ := h
  rw [List.getElem?_append_left (List.getElem?_eq_some_iff.mp e).1, e]
section
variable {CA : Nat → Addr} {K : PySem.W.Frag} {H H' : Hp} {ρ ρ' : List Addr} {M : Store}
/-- what stands at the store's addresses is no tuple and nothing known -/
theorem RS.obj (R : RS CA K H ρ M) {a : Addr} (h : a ∈ ρ) : ∃ o, H a = some o ∧ (∀ xs, o ≠ .tup xs) ∧ (∀ ob u, o ≠ .frz ob u) ∧ ∀ x, o ≠ .own x := by
  obtain ⟨n, hn, e⟩ := List.mem_iff_getElem.mp h
  have hM : n < M.length := by rw [← R.len]; exact hn
  obtain ⟨b, o, e1, e2, e3⟩ := R.at_ n M[n] (List.getElem?_eq_getElem hM)
  rw [List.getElem?_eq_getElem hn, e] at e1
  cases e1
  refine ⟨o, e2, ?_⟩
  cases q : M[n] with
  | lst ds => rw [q] at e3; obtain ⟨vs, rfl, _⟩ := e3; exact ⟨fun _ z => (by cases z), fun _ _ z => (by cases z), fun _ z => (by cases z)⟩
  | dct kvs => rw [q] at e3; obtain ⟨vs, rfl, _⟩ := e3; exact ⟨fun _ z => (by cases z), fun _ _ z => (by cases z), fun _ z => (by cases z)⟩
  | dtt kvs => rw [q] at e3; obtain ⟨vs, rfl, _⟩ := e3; exact ⟨fun _ z => (by cases z), fun _ _ z => (by cases z), fun _ z => (by cases z)⟩
  | ins c fs => rw [q] at e3; obtain ⟨_, vs, rfl, _⟩ := e3; exact ⟨fun _ z => (by cases z), fun _ _ z => (by cases z), fun _ z => (by cases z)⟩
theorem RS.notin (R : RS CA K H ρ M) {a : Addr} {o : HO} (h : H a = some o) (t : (∃ xs, o = .tup xs) ∨ (∃ ob u, o = .frz ob u) ∨ ∃ x, o = .own x) : a ∉ ρ := fun m => by
  obtain ⟨o', e, h1, h2, h3⟩ := R.obj m
  rw [h] at e
  cases e
  rcases t with ⟨xs, rfl⟩ | ⟨ob, u, rfl⟩ | ⟨x, rfl⟩
  · exact h1 _ rfl
  · exact h2 _ _ rfl
  · exact h3 _ rfl
theorem sqT_mono (R : RS CA K H ρ M) (s : St8 H ρ H' ρ') {t : Addr} {vs : List V} (h : H t = some (.tup vs)) : H' t = some (.tup vs) := s.frm _ _ h (R.notin h (.inl ⟨_, rfl⟩))
theorem frzL_mono (R : RS CA K H ρ M) (s : St8 H ρ H' ρ') {t : Addr} {vs : List V} (h : FrzL K H t vs) : FrzL K H' t vs := by
  rcases h with ⟨o, h⟩ | h
  · exact .inl ⟨o, s.frm _ _ h (R.notin h (.inr (.inl ⟨_, _, rfl⟩)))⟩
  · exact .inr h
mutual
theorem RV.mono (R : RS CA K H ρ M) (s : St8 H ρ H' ρ') : ∀ (d : D) (v : V), RV K H ρ d v → RV K H' ρ' d v
  | .non, v, h => by simp only [RV] at h ⊢; exact h
  | .bl b, v, h => by simp only [RV] at h ⊢; exact h
  | .int i, v, h => by simp only [RV] at h ⊢; exact h
  | .str z, v, h => by simp only [RV] at h ⊢; exact h
  | .loc n, v, h => by
    simp only [RV] at h ⊢
    obtain ⟨a, e, rfl⟩ := h
    exact ⟨a, prefix_get s.pre e, rfl⟩
  | .rol xs, v, h => by
    simp only [RV] at h ⊢
    obtain ⟨a, rfl, e⟩ := h
    exact ⟨a, rfl, frzL_mono R s e⟩
  | .tup ds, v, h => by
    simp only [RV] at h ⊢
    obtain ⟨t, vs, rfl, e, r⟩ := h
    exact ⟨t, vs, rfl, sqT_mono R s e, RVs.mono R s ds vs r⟩
  | .ktp xs, v, h => by
    simp only [RV] at h ⊢
    exact h
theorem RVs.mono (R : RS CA K H ρ M) (s : St8 H ρ H' ρ') : ∀ (ds : List D) (vs : List V), RVs K H ρ ds vs → RVs K H' ρ' ds vs
  | [], vs, h => by simp only [RVs] at h ⊢; exact h
  | d :: ds, vs, h => by
    simp only [RVs] at h ⊢
    obtain ⟨v, r, rfl, h1, h2⟩ := h
    exact ⟨v, r, rfl, RV.mono R s d v h1, RVs.mono R s ds r h2⟩
end
theorem RO.mono (R : RS CA K H ρ M) (s : St8 H ρ H' ρ') {o : Ob} {h : HO} (x : RO CA K H ρ o h) : RO CA K H' ρ' o h := by
  cases o with
  | lst ds => obtain ⟨vs, e, r⟩ := x; exact ⟨vs, e, RVs.mono R s _ _ r⟩
  | dct kvs => obtain ⟨vs, e, e2, r⟩ := x; exact ⟨vs, e, e2, RVs.mono R s _ _ r⟩
  | dtt kvs => obtain ⟨vs, e, e2, r⟩ := x; exact ⟨vs, e, e2, RVs.mono R s _ _ r⟩
  | ins c fs => obtain ⟨dx, vs, e, e2, r⟩ := x; exact ⟨dx, vs, e, e2, RVs.mono R s _ _ r⟩
/-- a thing beside the store is laid -/
theorem St8.lay {p : Addr} {o : HO} (hp : H p = none) : St8 H ρ (upd H p o) ρ := ⟨List.prefix_refl _, fun a u h _ => by rw [upd_ne (ne_of_none h hp)]; exact h, fun _ h => .inl h⟩
theorem RS.lay (R : RS CA K H ρ M) {p : Addr} {o : HO} (hp : H p = none) : RS CA K (upd H p o) ρ M := by
  refine ⟨R.len, R.nd, fun n ob e => ?_⟩
  obtain ⟨a, h, e1, e2, e3⟩ := R.at_ n ob e
  exact ⟨a, h, e1, by rw [upd_ne (ne_of_none e2 hp)]; exact e2, RO.mono R (St8.lay hp) e3⟩
/-- a new object of the store -/
theorem St8.push {p : Addr} {o : HO} (hp : H p = none) : St8 H ρ (upd H p o) (ρ ++ [p]) := ⟨⟨[p], rfl⟩, fun a u h _ => by rw [upd_ne (ne_of_none h hp)]; exact h, fun a h => by
  rcases List.mem_append.mp h with h | h
  · exact .inl h
  · have e : a = p := by simpa using h
    exact .inr (e ▸ hp)⟩
theorem RS.push (R : RS CA K H ρ M) {p : Addr} {o : HO} {ob : Ob} (hp : H p = none) (x : RO CA K H ρ ob o) : RS CA K (upd H p o) (ρ ++ [p]) (M ++ [ob]) := by
  have s : St8 H ρ (upd H p o) (ρ ++ [p]) := St8.push hp
  refine ⟨by simp [R.len], ?_, fun n u e => ?_⟩
  · rw [List.nodup_append]
    refine ⟨R.nd, by simp, fun a ha b hb => ?_⟩
    have e : b = p := by simpa using hb
    rintro rfl
    obtain ⟨o', e', _⟩ := R.obj ha
    rw [e, hp] at e'
    cases e'
  · by_cases hn : n < M.length
    · rw [List.getElem?_append_left hn] at e
      obtain ⟨a, h, e1, e2, e3⟩ := R.at_ n u e
      exact ⟨a, h, prefix_get s.pre e1, by rw [upd_ne (ne_of_none e2 hp)]; exact e2, RO.mono R s e3⟩
    · have hl : n = M.length := by
        have := (List.getElem?_eq_some_iff.mp e).1
        simp at this
        omega
      subst hl
      rw [List.getElem?_append_right (Nat.le_refl _)] at e
      simp at e
      subst e
      refine ⟨p, o, ?_, upd_same, RO.mono R s x⟩
      rw [← R.len, List.getElem?_append_right (Nat.le_refl _)]
      simp
/-- an object of the store is written -/
theorem St8.write {a : Addr} {o : HO} (ha : a ∈ ρ) : St8 H ρ (upd H a o) ρ := ⟨List.prefix_refl _, fun b u h n => by rw [upd_ne (fun z => n (by rw [z]; exact ha))]; exact h, fun _ h => .inl h⟩
theorem RS.write (R : RS CA K H ρ M) {a : Addr} {o : HO} {n : Nat} {ob : Ob} (ha : ρ[n]? = some a) (x : RO CA K H ρ ob o) : RS CA K (upd H a o) ρ (M.set n ob) := by
  have ma : a ∈ ρ := List.mem_of_getElem? ha
  have s : St8 H ρ (upd H a o) ρ := St8.write ma
  have hn : n < M.length := by rw [← R.len]; exact (List.getElem?_eq_some_iff.mp ha).1
  refine ⟨by simp [R.len], R.nd, fun m u e => ?_⟩
  by_cases hm : m = n
  · subst hm
    rw [List.getElem?_set_self hn] at e
    cases e
    exact ⟨a, o, ha, upd_same, RO.mono R s x⟩
  · rw [List.getElem?_set_ne (Ne.symm hm)] at e
    obtain ⟨b, h, e1, e2, e3⟩ := R.at_ m u e
    refine ⟨b, h, e1, ?_, RO.mono R s e3⟩
    rw [upd_ne]
    · exact e2
    · rintro rfl
      obtain ⟨h1, e1'⟩ := List.getElem?_eq_some_iff.mp e1
      obtain ⟨h2, e2'⟩ := List.getElem?_eq_some_iff.mp ha
      exact hm ((List.getElem_inj R.nd).mp (e1'.trans e2'.symm))
theorem RVs.get : ∀ {ds : List D} {vs : List V} {i : Nat} {d : D}, RVs K H ρ ds vs → ds[i]? = some d → ∃ v, vs[i]? = some v ∧ RV K H ρ d v
  | [], _, _, _, _, e => by simp at e
  | x :: ds, vs, 0, d, h, e => by
    simp only [RVs] at h
    obtain ⟨v, r, rfl, h1, h2⟩ := h
    simp at e
    subst e
    exact ⟨v, rfl, h1⟩
  | x :: ds, vs, i + 1, d, h, e => by
    simp only [RVs] at h
    obtain ⟨v, r, rfl, h1, h2⟩ := h
    obtain ⟨w, e1, e2⟩ := RVs.get (i := i) (d := d) h2 (by simpa using e)
    exact ⟨w, by simpa using e1, e2⟩
theorem RVs.length : ∀ {ds : List D} {vs : List V}, RVs K H ρ ds vs → vs.length = ds.length
  | [], _, h => by simp only [RVs] at h; rw [h]; rfl
  | d :: ds, vs, h => by
    simp only [RVs] at h
    obtain ⟨v, r, rfl, h1, h2⟩ := h
    rw [List.length_cons, List.length_cons, RVs.length h2]
theorem RVs.nil : RVs K H ρ [] [] := by simp only [RVs]
theorem RVs.cons {d : D} {v : V} {ds : List D} {vs : List V} (h : RV K H ρ d v) (t : RVs K H ρ ds vs) : RVs K H ρ (d :: ds) (v :: vs) := by
  simp only [RVs]
  exact ⟨v, vs, rfl, h, t⟩
theorem RVs.app : ∀ {ds es : List D} {vs ws : List V}, RVs K H ρ ds vs → RVs K H ρ es ws → RVs K H ρ (ds ++ es) (vs ++ ws)
  | [], es, vs, ws, h, t => by simp only [RVs] at h; subst h; exact t
  | d :: ds, es, vs, ws, h, t => by
    simp only [RVs] at h
    obtain ⟨v, r, rfl, h1, h2⟩ := h
    exact RVs.cons h1 (RVs.app h2 t)
theorem RVs.drop : ∀ {ds : List D} {vs : List V} (n : Nat), RVs K H ρ ds vs → RVs K H ρ (ds.drop n) (vs.drop n)
  | _, _, 0, h => h
  | [], vs, n + 1, h => by simp only [RVs] at h; subst h; exact RVs.nil
  | d :: ds, vs, n + 1, h => by
    simp only [RVs] at h
    obtain ⟨v, r, rfl, h1, h2⟩ := h
    exact RVs.drop n h2
theorem RVs.take : ∀ {ds : List D} {vs : List V} (n : Nat), RVs K H ρ ds vs → RVs K H ρ (ds.take n) (vs.take n)
  | _, _, 0, h => RVs.nil
  | [], vs, n + 1, h => by simp only [RVs] at h; subst h; exact RVs.nil
  | d :: ds, vs, n + 1, h => by
    simp only [RVs] at h
    obtain ⟨v, r, rfl, h1, h2⟩ := h
    exact RVs.cons h1 (RVs.take n h2)
theorem RVs.set : ∀ {ds : List D} {vs : List V} (n : Nat) {d : D} {v : V}, RVs K H ρ ds vs → RV K H ρ d v → RVs K H ρ (ds.set n d) (vs.set n v)
  | [], vs, n, _, _, h, _ => by simp only [RVs] at h; subst h; exact RVs.nil
  | d :: ds, vs, 0, _, _, h, x => by
    simp only [RVs] at h
    obtain ⟨v, r, rfl, h1, h2⟩ := h
    exact RVs.cons x h2
  | d :: ds, vs, n + 1, _, _, h, x => by
    simp only [RVs] at h
    obtain ⟨v, r, rfl, h1, h2⟩ := h
    exact RVs.cons h1 (RVs.set n h2 x)
theorem RVs.rev : ∀ {ds : List D} {vs : List V}, RVs K H ρ ds vs → RVs K H ρ ds.reverse vs.reverse
  | [], vs, h => by simp only [RVs] at h; subst h; exact RVs.nil
  | d :: ds, vs, h => by
    simp only [RVs] at h
    obtain ⟨v, r, rfl, h1, h2⟩ := h
    rw [List.reverse_cons, List.reverse_cons]
    exact RVs.app (RVs.rev h2) (RVs.cons h1 RVs.nil)
theorem RVs.ints : ∀ {is : List Int} {vs : List V}, RVs K H ρ (is.map D.int) vs → vs = is.map V.int
  | [], vs, h => by simpa [RVs] using h
  | i :: is, vs, h => by
    simp only [List.map_cons, RVs, RV] at h
    obtain ⟨v, r, rfl, rfl, h2⟩ := h
    rw [RVs.ints h2]
    rfl
theorem RVs.of_ints : ∀ {is : List Int}, RVs K H ρ (is.map D.int) (is.map V.int)
  | [] => RVs.nil
  | i :: is => RVs.cons (by simp only [RV]) RVs.of_ints
theorem RVs.of_strs : ∀ {is : List Str}, RVs K H ρ (is.map D.str) (is.map V.str)
  | [] => RVs.nil
  | i :: is => RVs.cons (by simp only [RV]) RVs.of_strs
theorem intsOf_eq : ∀ {ds : List D} {is : List Int}, intsOf ds = some is → ds = is.map D.int
  | [], is, h => by simp only [intsOf] at h; cases h; rfl
  | d :: r, is, h => by
    cases d with
    | int i =>
      simp only [intsOf] at h
      cases q : intsOf r with
      | none => rw [q] at h; cases h
      | some js =>
        rw [q] at h
        cases h
        rw [intsOf_eq q]
        rfl
    | _ => simp [intsOf] at h
theorem strsOf_eq : ∀ {ds : List D} {is : List Str}, strsOf ds = some is → ds = is.map D.str
  | [], is, h => by simp only [strsOf] at h; cases h; rfl
  | d :: r, is, h => by
    cases d with
    | str i =>
      simp only [strsOf] at h
      cases q : strsOf r with
      | none => rw [q] at h; cases h
      | some js =>
        rw [q] at h
        cases h
        rw [strsOf_eq q]
        rfl
    | _ => simp [strsOf] at h
theorem RVs.strs : ∀ {is : List Str} {vs : List V}, RVs K H ρ (is.map D.str) vs → vs = is.map V.str
  | [], vs, h => by simpa [RVs] using h
  | i :: is, vs, h => by
    simp only [List.map_cons, RVs, RV] at h
    obtain ⟨v, r, rfl, rfl, h2⟩ := h
    rw [RVs.strs h2]
    rfl
/-- a list of the store -/
theorem RS.lst (R : RS CA K H ρ M) {n : Nat} {ds : List D} (h : lstAt M n = some ds) : ∃ a vs, ρ[n]? = some a ∧ H a = some (.lst vs) ∧ RVs K H ρ ds vs := by
  unfold lstAt at h
  split at h
  · rename_i xs e
    cases h
    obtain ⟨a, u, e1, e2, vs, rfl, r⟩ := R.at_ n _ e
    exact ⟨a, vs, e1, e2, r⟩
  · cases h
theorem RS.lst' (R : RS CA K H ρ M) {n : Nat} {ds : List D} (h : M[n]? = some (.lst ds)) : ∃ a vs, ρ[n]? = some a ∧ H a = some (.lst vs) ∧ RVs K H ρ ds vs := by
  obtain ⟨a, u, e1, e2, vs, rfl, r⟩ := R.at_ n _ h
  exact ⟨a, vs, e1, e2, r⟩
end

/-! ### the slots -/
def RE (K : PySem.W.Frag) (H : Hp) (ρ : List Addr) (e : Env) (σ : St) : Prop := e.length = σ.length ∧ ∀ (i : Nat) (d : D), e[i]? = some (some d) → ∃ v, σ[i]? = some (some v) ∧ RV K H ρ d v
/-- the classes' addresses; what more is known of the slots -/
structure Ca where
  a : Nat → Addr
  sg : St → Hp → Prop
  mono : ∀ {σ : St} {H H' : Hp} {ρ ρ' : List Addr}, St8 H ρ H' ρ' → (∀ p, p ∈ ρ → ∃ o, H p = some o ∧ (∀ fs, o ≠ .xd fs) ∧ (∀ xs, o ≠ .tup xs) ∧ ∀ ob u, o ≠ .frz ob u) → sg σ H → sg σ H'
instance : CoeFun Ca fun _ => Nat → Addr := ⟨Ca.a⟩
instance : Coe Ca (Nat → Addr) := ⟨Ca.a⟩
theorem RS.noxd {CA : Nat → Addr} {K : PySem.W.Frag} {H : Hp} {ρ : List Addr} {M : Store} (R : RS CA K H ρ M) : ∀ p fs, H p = some (.xd fs) → p ∉ ρ := fun p fs e m => by
  obtain ⟨n, hn, en⟩ := List.mem_iff_getElem.mp m
  have hM : n < M.length := by rw [← R.len]; exact hn
  obtain ⟨b, o, e1, e2, e3⟩ := R.at_ n M[n] (List.getElem?_eq_getElem hM)
  rw [List.getElem?_eq_getElem hn, en] at e1
  cases e1
  rw [e] at e2
  cases e2
  cases q : M[n] with
  | lst ds => rw [q] at e3; obtain ⟨vs, z, _⟩ := e3; cases z
  | dct kvs => rw [q] at e3; obtain ⟨vs, z, _⟩ := e3; cases z
  | dtt kvs => rw [q] at e3; obtain ⟨vs, z, _⟩ := e3; cases z
  | ins c fs => rw [q] at e3; obtain ⟨_, vs, z, _⟩ := e3; cases z
theorem RS.clean {CA : Nat → Addr} {K : PySem.W.Frag} {H : Hp} {ρ : List Addr} {M : Store} (R : RS CA K H ρ M) : ∀ p, p ∈ ρ → ∃ o, H p = some o ∧ (∀ fs, o ≠ .xd fs) ∧ (∀ xs, o ≠ .tup xs) ∧ ∀ ob u, o ≠ .frz ob u := fun p m => by
  obtain ⟨o, e, h1, h2, _⟩ := R.obj m
  exact ⟨o, e, fun fs z => R.noxd p fs (z ▸ e) m, h1, h2⟩
structure Rel (CA : Ca) (K : PySem.W.Frag) (H : Hp) (ρ : List Addr) (e : Env) (σ : St) (M : Store) : Prop where
  st : RS CA K H ρ M
  en : RE K H ρ e σ
  sg : CA.sg σ H
theorem Rel.next {CA : Ca} {K : PySem.W.Frag} {H H' : Hp} {ρ ρ' : List Addr} {e : Env} {σ : St} {M M' : Store} (r : Rel CA K H ρ e σ M) (s : St8 H ρ H' ρ') (r' : RS CA K H' ρ' M') : Rel CA K H' ρ' e σ M' :=
  ⟨r', ⟨r.en.1, fun i d h => by
    obtain ⟨v, e1, e2⟩ := r.en.2 i d h
    exact ⟨v, e1, RV.mono r.st s d v e2⟩⟩, CA.mono s r.st.clean r.sg⟩
theorem RE.set {K : PySem.W.Frag} {H : Hp} {ρ : List Addr} {e : Env} {σ : St} (r : RE K H ρ e σ) (i : Nat) {d : D} {v : V} (h : RV K H ρ d v) : RE K H ρ (e.set i (some d)) (σ.set i (some v)) := by
  refine ⟨by simp [r.1], fun j x hx => ?_⟩
  by_cases hj : i = j
  · subst hj
    by_cases hi : i < e.length
    · rw [List.getElem?_set_self hi] at hx
      cases hx
      exact ⟨v, List.getElem?_set_self (r.1 ▸ hi), h⟩
    · rw [List.getElem?_eq_none (by simpa using hi)] at hx
      cases hx
  · rw [List.getElem?_set_ne hj] at hx ⊢
    exact r.2 j x hx
theorem RE.unset {K : PySem.W.Frag} {H : Hp} {ρ : List Addr} {e : Env} {σ : St} (r : RE K H ρ e σ) (i : Nat) : RE K H ρ (e.set i none) (σ.set i none) := by
  refine ⟨by simp [r.1], fun j x hx => ?_⟩
  by_cases hj : i = j
  · subst hj
    by_cases hi : i < e.length
    · rw [List.getElem?_set_self hi] at hx
      cases hx
    · rw [List.getElem?_eq_none (by simpa using hi)] at hx
      cases hx
  · rw [List.getElem?_set_ne hj] at hx ⊢
    exact r.2 j x hx
end Dv
end

section
set_option Elab.async false
set_option autoImplicit false
set_option linter.all false
set_option maxRecDepth 100000
set_option maxHeartbeats 2000000
/-! DvC: what is wanted behind the evaluator's end; operators by values. -/
namespace Dv
open PySem L2

/-! ### the weakest that a piece of syntax asks -/
def TMX (X : Cx) (e : Expr) : TE := fun σ H Q => ∀ (pins : List (Addr × Obj)) (s : Shared), Inv X pins σ H s → wpAny (model X.prog X.w) X.A (eval e X.env) (EP X pins σ Q) X.xe s
theorem pe_tm (X : Cx) (e : Expr) : PE X e (TMX X e) := ⟨fun pins s _ _ _ I h => h pins s I⟩
theorem tm_pe {X : Cx} {e : Expr} {t : TE} {σ : L2.St} {H : Hp} {Q : VK} (h : PE X e t) (q : t σ H Q) : TMX X e σ H Q := fun pins s I => h.run pins s σ H Q I q
def TMT (X : Cx) (e : Expr) : TT := fun σ H Q => ∀ (pins : List (Addr × Obj)) (s : Shared), Inv X pins σ H s → wpAny (model X.prog X.w) X.A (isTrue e X.env (eval e X.env)) (TP X pins σ Q) X.xe s
theorem pt_tm (X : Cx) (e : Expr) : PT X e (TMT X e) := ⟨fun pins s _ _ _ I h => h pins s I⟩
theorem tm_pt {X : Cx} {e : Expr} {t : TT} {σ : L2.St} {H : Hp} {Q : Bool → Hp → Prop} (h : PT X e t) (q : t σ H Q) : TMT X e σ H Q := fun pins s I => h.run pins s σ H Q I q
def TMW (X : Cx) (e : Expr) : TT := fun σ H Q => ∀ (whole : PySem.Sem Value) (pins : List (Addr × Obj)) (s : Shared), Inv X pins σ H s → wpAny (model X.prog X.w) X.A (isTrue e X.env whole) (TP X pins σ Q) X.xe s
theorem pw_tm (X : Cx) (e : Expr) : PW X e (TMW X e) := ⟨fun whole pins s _ _ _ I h => h whole pins s I⟩
theorem tm_pw {X : Cx} {e : Expr} {t : TT} {σ : L2.St} {H : Hp} {Q : Bool → Hp → Prop} (h : PW X e t) (q : t σ H Q) : TMW X e σ H Q := fun whole pins s I => h.run whole pins s σ H Q I q
def TMA (X : Cx) (es : List Expr) : TA := fun σ H Q => ∀ (pos : Pos) (pins : List (Addr × Obj)) (s : Shared), Inv X pins σ H s → wpAny (model X.prog X.w) X.A (spliced (backTo pos (starEach es X.env))) (AP X pins σ Q) X.xe s
theorem pa_tm (X : Cx) (es : List Expr) : PA X es (TMA X es) := ⟨fun pos pins s _ _ _ I h => h pos pins s I⟩
theorem tm_pa {X : Cx} {es : List Expr} {t : TA} {σ : L2.St} {H : Hp} {Q : List V → Hp → Prop} (h : PA X es t) (q : t σ H Q) : TMA X es σ H Q := fun pos pins s I => h.run pos pins s σ H Q I q
def TMP (X : Cx) (e : Option Expr) : TO := fun σ H Q => ∀ (pins : List (Addr × Obj)) (s : Shared), Inv X pins σ H s → wpAny (model X.prog X.w) X.A (evalPart e X.env) (fun u s' => ∃ o H', Inv X pins σ H' s' ∧ IsPart u o ∧ Q o H') X.xe s
theorem po_tm (X : Cx) (e : Option Expr) : PO X e (TMP X e) := ⟨fun pins s _ _ _ I h => h pins s I⟩
theorem tm_po {X : Cx} {e : Option Expr} {t : TO} {σ : L2.St} {H : Hp} {Q : Option Int → Hp → Prop} (h : PO X e t) (q : t σ H Q) : TMP X e σ H Q := fun pins s I => h.run pins s σ H Q I q
def TMI (X : Cx) (tg e : Expr) : TI := fun σ H R => ∀ (pins : List (Addr × Obj)) (s : Shared), Inv X pins σ H s → wpAny (model X.prog X.w) X.A (eval e X.env) (fun v s1 => wpAny (model X.prog X.w) X.A (pyIter v) (PIE X pins σ tg R) X.xe s1) X.xe s
theorem pi_tm (X : Cx) (tg e : Expr) : PI X tg e (TMI X tg e) := ⟨fun pins s _ _ _ I h => h pins s I⟩
theorem tm_pi {X : Cx} {tg e : Expr} {t : TI} {σ : L2.St} {H : Hp} {R : It → Hp → Prop} (h : PI X tg e t) (q : t σ H R) : TMI X tg e σ H R := fun pins s I => h.run pins s σ H R I q
def TMS (X : Cx) (st : Stmt) : TS := fun D σ H => ∀ (pins : List (Addr × Obj)) (s : Shared), Inv X pins σ H s → wpAny (model X.prog X.w) X.A (exec st X.env) (SP X pins D) X.xe s
theorem ps_tm (X : Cx) (st : Stmt) : PS X st (TMS X st) := ⟨fun pins s _ _ _ I h => h pins s I⟩
theorem tm_ps {X : Cx} {st : Stmt} {t : TS} {σ : L2.St} {H : Hp} {D : Ends} (h : PS X st t) (q : t D σ H) : TMS X st D σ H := fun pins s I => h.run pins s σ H D I q
def TMB (X : Cx) (st : List Stmt) : TS := fun D σ H => ∀ (pins : List (Addr × Obj)) (s : Shared), Inv X pins σ H s → wpAny (model X.prog X.w) X.A (execs st X.env) (SP X pins D) X.xe s
theorem pss_tm (X : Cx) (st : List Stmt) : PSs X st (TMB X st) := ⟨fun pins s _ _ _ I h => h pins s I⟩
theorem tm_pss {X : Cx} {st : List Stmt} {t : TS} {σ : L2.St} {H : Hp} {D : Ends} (h : PSs X st t) (q : t D σ H) : TMB X st D σ H := fun pins s I => h.run pins s σ H D I q
def TMO (X : Cx) (f : Value → Value → PySem.Sem Value) : R2 := fun x y H Q => ∀ (pins : List (Addr × Obj)) (s : Shared) (σ : L2.St) (v u : Value), Inv X pins σ H s → RelV x v → RelV y u → wpAny (model X.prog X.w) X.A (f v u) (EP X pins σ Q) X.xe s
theorem op_tm (X : Cx) (f : Value → Value → PySem.Sem Value) : OpR X f (TMO X f) := fun pins s σ H x y v u Q I rx ry h => h pins s σ v u I rx ry
theorem tm_op {X : Cx} {f : Value → Value → PySem.Sem Value} {r : R2} {x y : V} {H : Hp} {Q : VK} (h : OpR X f r) (q : r x y H Q) : TMO X f x y H Q := fun pins s σ v u I rx ry => h pins s σ H x y v u Q I rx ry q
def TMC (X : Cx) (f : Value) : List V → Hp → VK → Prop := fun xs H Q => ∀ (pins : List (Addr × Obj)) (s : Shared) (σ : L2.St) (us : List Value), Inv X pins σ H s → Vals xs us → wpAny (model X.prog X.w) X.A (call f us) (EP X pins σ Q) X.xe s
theorem call_tm (X : Cx) (f : Value) : CallR X f (TMC X f) := fun pins s σ H xs us Q I r h => h pins s σ us I r
theorem tm_call {X : Cx} {f : Value} {r : List V → Hp → VK → Prop} {xs : List V} {H : Hp} {Q : VK} (h : CallR X f r) (q : r xs H Q) : TMC X f xs H Q := fun pins s σ us I rv => h pins s σ H xs us Q I rv q
def TMM (X : Cx) (id : String) : V → List V → Hp → VK → Prop := fun x xs H Q => ∀ (pins : List (Addr × Obj)) (s : Shared) (σ : L2.St) (v : Value) (us : List Value), Inv X pins σ H s → RelV x v → Vals xs us → wpAny (model X.prog X.w) X.A (call (.builtin id) (v :: us)) (EP X pins σ Q) X.xe s
theorem mt_tm (X : Cx) (id : String) : MtR X id (TMM X id) := fun pins s σ H x xs v us Q I rx rv h => h pins s σ v us I rx rv
theorem tm_mt {X : Cx} {id : String} {r : V → List V → Hp → VK → Prop} {x : V} {xs : List V} {H : Hp} {Q : VK} (h : MtR X id r) (q : r x xs H Q) : TMM X id x xs H Q := fun pins s σ v us I rx rv => h pins s σ H x xs v us Q I rx rv q
/-- o[i] -/
def TMG (X : Cx) (value slice : Expr) : R2 := fun x y H Q => ∀ (pins : List (Addr × Obj)) (s : Shared) (σ : L2.St) (v u : Value), Inv X pins σ H s → RelV x v → RelV y u → wpAny (model X.prog X.w) X.A (PyProof.Rows.subscriptTail value slice v u) (EP X pins σ Q) X.xe s
theorem pe_ixm {X : Cx} {a b : Expr} {ta tb : TE} {pos : Pos} (ha : PE X a ta) (hb : PE X b tb) : PE X (.Subscript a b pos) (tOp (TMG X a b) ta tb) := by
  refine ⟨fun pins s σ H Q I h => ?_⟩
  exact PyProof.Rows.Subscript_ (binT ha hb I h fun v u s2 x y H2 I2 rx ry q => q pins s2 σ v u I2 rx ry)
theorem tm_ix {X : Cx} {a b : Expr} {r : R2} {x y : V} {H : Hp} {Q : VK} (h : IxR X r) (hs : PlainIx b) (q : r x y H Q) : TMG X a b x y H Q := fun pins s σ v u I rx ry => h a b pins s σ H x y v u Q I rx ry q (hs _ _)
/-- d[k] of a dict -/
theorem tm_dix {X : Cx} {a b : Expr} {x y : V} {H : Hp} {Q : VK} (hu : X.A.units + 1 < cLine) (hs : PlainIx b) (q : ∃ d v, x = .ref d ∧ DGet H d y (some v) ∧ Q v H) : TMG X a b x y H Q := fun pins s σ v u I rx ry => by
  obtain ⟨d, z, rfl, g, q⟩ := q
  obtain rfl : v = Value.ref d := rx
  have hT := dict_typeIs I g
  unfold PyProof.Rows.subscriptTail
  refine wpAny_bind ?_
  rw [getitemInPython_of_ne hT.not_modules]
  refine wpAny_bind (wpAny_specialOf hT PySem.F.slot_dict_getitem.lookup ?_)
  have fin : wpAny (model X.prog X.w) X.A (subscripted b false (Value.ref d) u) (fun r s₃ => wpAny (model X.prog X.w) X.A (letTemporaryGo a (Value.ref d) r >>= fun _ => pure r) (EP X pins σ Q) X.xe s₃) X.xe s := by
    rw [hs (Value.ref d) u]
    exact wpAny_operating (d_getItem hu I g ry fun w' s3 I3 rw' => wpAny_bind (wpAny_letTemporaryGo (wpAny_pure ⟨z, H, I3, rw', q⟩)))
  first
    | exact wpAny_pure (wpAny_bind fin)
    | exact wpAny_bind fin
    | exact fin
end Dv
end

section
set_option Elab.async false
set_option autoImplicit false
set_option linter.all false
set_option maxRecDepth 100000
set_option maxHeartbeats 2000000
/-! DvD: what is wanted behind the evaluator's end; operators by values. -/
namespace Dv
open PySem L2

/-! ### exceptions -/
/-- what an exception's fields are, behind it -/
def XR (K : PySem.W.Frag) (H : Hp) (fs : List (Str × D)) : Option Addr → Prop
  | none => fs = []
  | some d => fs ≠ [] ∧ ∃ ws, H d = some (.xd ws) ∧ ∀ f x, fs.lookup f = some x → ∃ v, ws.lookup f = some v ∧ RV K H [] x v
section
variable (CA : Nat → Addr) (K : PySem.W.Frag) (W : WX) (σ : L2.St)
def Post {α : Type} (H : Hp) (ρ : List Addr) (o : Out α) (k : α → Store → Hp → List Addr → Prop) : Prop := match o with
  | .ok a M => ∀ H' ρ', St8 H ρ H' ρ' → RS CA K H' ρ' M → k a M H' ρ'
  | .exc c fs M => ∀ dd H' ρ', St8 H ρ H' ρ' → RS CA K H' ρ' M → XR K H' fs dd → W (.ref (CA c)) dd σ H'
  | .bad => False
end
section
variable {CA : Nat → Addr} {K : PySem.W.Frag} {W : WX} {σ : L2.St} {H H1 : Hp} {ρ ρ1 : List Addr} {α β : Type}
theorem Post.step {o : Out α} {k : α → Store → Hp → List Addr → Prop} (s : St8 H ρ H1 ρ1) (p : Post CA K W σ H ρ o k) : Post CA K W σ H1 ρ1 o k := by
  cases o with
  | ok a M => exact fun H' ρ' s' R => p H' ρ' (s.trans s') R
  | exc c fs M => exact fun dd H' ρ' s' R x => p dd H' ρ' (s.trans s') R x
  | bad => exact p
theorem Post.mono {o : Out α} {k k' : α → Store → Hp → List Addr → Prop} (p : Post CA K W σ H ρ o k) (h : ∀ a M H' ρ', o = .ok a M → St8 H ρ H' ρ' → RS CA K H' ρ' M → k a M H' ρ' → k' a M H' ρ') : Post CA K W σ H ρ o k' := by
  cases o with
  | ok a M => exact fun H' ρ' s' R => h _ _ _ _ rfl s' R (p H' ρ' s' R)
  | exc c fs M => exact p
  | bad => exact p
theorem Post.bind {o : Out α} {g : α → Store → Out β} {k : β → Store → Hp → List Addr → Prop} (p : Post CA K W σ H ρ (o.bind g) k) : Post CA K W σ H ρ o fun a M H1 ρ1 => Post CA K W σ H1 ρ1 (g a M) k := by
  cases o with
  | ok a M => exact fun H' ρ' s' R => p.step s'
  | exc c fs M => exact p
  | bad => exact p
theorem Post.here {a : α} {M : Store} {k : α → Store → Hp → List Addr → Prop} (p : Post CA K W σ H ρ (.ok a M) k) (R : RS CA K H ρ M) : k a M H ρ := p H ρ (St8.refl H ρ) R
theorem Post.ofO {o : Option α} {M : Store} {k : α → Store → Hp → List Addr → Prop} (p : Post CA K W σ H ρ (ofO o M) k) : ∃ a, o = some a ∧ Post CA K W σ H ρ (.ok a M) k := by
  cases o with
  | none => exact p.elim
  | some a => exact ⟨a, rfl, p⟩
/-- a value's end -/
abbrev kV' (K : PySem.W.Frag) (Q : VK) : D → Store → Hp → List Addr → Prop := fun d _ H' ρ' => ∀ v, RV K H' ρ' d v → Q v H'
/-- a new object: the store's, at any new place -/
theorem Post.mk {M : Store} {ob : Ob} {o : HO} {Q : VK} (p : Post CA K W σ H ρ (Dv.mk M ob) (kV' K Q)) (R : RS CA K H ρ M) (x : RO CA K H ρ ob o) (q : Addr) (hq : H q = none) : Q (.ref q) (upd H q o) := by
  refine p (upd H q o) (ρ ++ [q]) (St8.push hq) (R.push hq x) (.ref q) ?_
  simp only [RV]
  exact ⟨q, by rw [← R.len]; simp, rfl⟩
theorem Post.if_ {c : Prop} [Decidable c] {o : Out α} {k : α → Store → Hp → List Addr → Prop} (p : Post CA K W σ H ρ (if c then o else .bad) k) : c ∧ Post CA K W σ H ρ o k := by
  by_cases h : c
  · rw [if_pos h] at p; exact ⟨h, p⟩
  · rw [if_neg h] at p; exact p.elim
/-- the same value, beside a new tuple -/
theorem Post.tup {M : Store} {ds : List D} {vs : List V} {Q : VK} (p : Post CA K W σ H ρ (.ok (.tup ds) M) (kV' K Q)) (R : RS CA K H ρ M) (r : RVs K H ρ ds vs) (q : Addr) (hq : H q = none) : Q (.ref q) (upd H q (.tup vs)) := by
  refine p (upd H q (.tup vs)) ρ (St8.lay hq) (R.lay hq) (.ref q) ?_
  simp only [RV]
  exact ⟨q, vs, rfl, upd_same, RVs.mono R (St8.lay hq) _ _ r⟩
end

/-! ### scalars as values -/
section
variable {CA : Nat → Addr} {K : PySem.W.Frag} {H : Hp} {ρ : List Addr} {M : Store}
theorem rv_non {v : V} (h : RV K H ρ .non v) : v = .non := by simpa only [RV] using h
theorem rv_bl {b : Bool} {v : V} (h : RV K H ρ (.bl b) v) : v = .bl b := by simpa only [RV] using h
theorem rv_int {i : Int} {v : V} (h : RV K H ρ (.int i) v) : v = .int i := by simpa only [RV] using h
theorem rv_str {z : Str} {v : V} (h : RV K H ρ (.str z) v) : v = .str z := by simpa only [RV] using h
theorem rv_tup {ds : List D} {v : V} (h : RV K H ρ (.tup ds) v) : ∃ t vs, v = .ref t ∧ H t = some (.tup vs) ∧ RVs K H ρ ds vs := by simpa only [RV] using h
theorem rv_ktp {xs : List Str} {v : V} (h : RV K H ρ (.ktp xs) v) : ∃ a, v = .ref a ∧ KTup K a (xs.map V.str) := by simpa only [RV] using h
theorem rv_loc {n : Nat} {v : V} (h : RV K H ρ (.loc n) v) : ∃ a, ρ[n]? = some a ∧ v = .ref a := by simpa only [RV] using h
theorem rv_rol {xs : List Int} {v : V} (h : RV K H ρ (.rol xs) v) : ∃ a, v = .ref a ∧ FrzL K H a (xs.map V.int) := by simpa only [RV] using h
theorem of_non : RV K H ρ .non .non := by simp only [RV]
theorem of_bl {b : Bool} : RV K H ρ (.bl b) (.bl b) := by simp only [RV]
theorem of_int {i : Int} : RV K H ρ (.int i) (.int i) := by simp only [RV]
theorem of_str {z : Str} : RV K H ρ (.str z) (.str z) := by simp only [RV]
/-- the store's object that a value names -/
theorem rv_obj (R : RS CA K H ρ M) {n : Nat} {o : Ob} {v : V} (h : RV K H ρ (.loc n) v) (e : M[n]? = some o) : ∃ a u, v = .ref a ∧ ρ[n]? = some a ∧ H a = some u ∧ RO CA K H ρ o u := by
  obtain ⟨a, ea, rfl⟩ := rv_loc h
  obtain ⟨b, u, e1, e2, e3⟩ := R.at_ n o e
  rw [ea] at e1
  cases e1
  exact ⟨a, u, rfl, ea, e2, e3⟩
theorem rv_lst (R : RS CA K H ρ M) {n : Nat} {ds : List D} {v : V} (h : RV K H ρ (.loc n) v) (e : lstAt M n = some ds) : ∃ a vs, v = .ref a ∧ ρ[n]? = some a ∧ H a = some (.lst vs) ∧ RVs K H ρ ds vs := by
  obtain ⟨a, vs, e1, e2, r⟩ := R.lst e
  obtain ⟨b, eb, rfl⟩ := rv_loc h
  rw [e1] at eb
  cases eb
  exact ⟨a, vs, rfl, e1, e2, r⟩
theorem lstAt_of {n : Nat} {ds : List D} (e : M[n]? = some (.lst ds)) : lstAt M n = some ds := by
  unfold lstAt
  rw [e]
/-- a list or a tuple that is read -/
theorem rv_seq (R : RS CA K H ρ M) {x : D} {ds : List D} {v : V} (h : RV K H ρ x v) (e : seqOf M x = some ds) : ∃ a vs, v = .ref a ∧ (SqL K H a vs ∨ SqT K H a vs) ∧ RVs K H ρ ds vs := by
  cases x with
  | loc n =>
    obtain ⟨a, vs, rfl, _, e2, r⟩ := rv_lst R h e
    exact ⟨a, vs, rfl, .inl (SqL.of e2), r⟩
  | tup xs =>
    cases e
    obtain ⟨t, vs, rfl, e2, r⟩ := rv_tup h
    exact ⟨t, vs, rfl, .inr (SqT.of e2), r⟩
  | rol xs =>
    cases e
    obtain ⟨t, rfl, e2⟩ := rv_rol h
    exact ⟨t, _, rfl, .inl e2.sq, RVs.of_ints⟩
  | _ => cases e
/-- the data -/
theorem pysO_int (f : Nat → Option PyData) (xs : List Int) : pysO f (xs.map D.int) = some (xs.map PyData.int) := by
  induction xs with
  | nil => rfl
  | cons x r ih =>
    rw [List.map_cons]
    show (match pyO f (.int x), pysO f (r.map D.int) with | some x, some xs => some (x :: xs) | _, _ => none) = _
    rw [ih]
    rfl
theorem dpAll_ints : ∀ xs : List Int, DpAll K H (xs.map V.int) (xs.map PyData.int)
  | [] => .nil
  | x :: r => .cons (.int x) (dpAll_ints r)
mutual
theorem rv_dp (f : Nat → Option PyData) (hf : ∀ n p v, f n = some p → RV K H ρ (.loc n) v → Dp K H v p) : ∀ (x : D) (v : V) (p : PyData), RV K H ρ x v → pyO f x = some p → Dp K H v p
  | .non, v, p, h, e => by
    have := rv_non h; subst this
    simp only [pyO] at e; cases e
    exact .non
  | .bl b, v, p, h, e => by
    have := rv_bl h; subst this
    simp only [pyO] at e; cases e
    exact .bl b
  | .int i, v, p, h, e => by
    have := rv_int h; subst this
    simp only [pyO] at e; cases e
    exact .int i
  | .str z, v, p, h, e => by
    have := rv_str h; subst this
    simp only [pyO] at e; cases e
    exact .str z
  | .rol xs, v, p, h, e => by
    obtain ⟨a, rfl, q⟩ := rv_rol h
    simp only [pyO] at e; cases e
    exact .lst q.sq (dpAll_ints xs)
  | .loc n, v, p, h, e => by
    simp only [pyO] at e
    exact hf n p v e h
  | .ktp xs, v, p, h, e => by
    simp only [pyO] at e
    cases e
  | .tup ds, v, p, h, e => by
    obtain ⟨t, vs, rfl, q, r⟩ := rv_tup h
    simp only [pyO] at e
    cases w : pysO f ds with
    | none => rw [w] at e; cases e
    | some ps =>
      rw [w] at e
      cases e
      exact .tup (SqT.of q) (rvs_dp f hf ds vs ps r w)
theorem rvs_dp (f : Nat → Option PyData) (hf : ∀ n p v, f n = some p → RV K H ρ (.loc n) v → Dp K H v p) : ∀ (ds : List D) (vs : List V) (ps : List PyData), RVs K H ρ ds vs → pysO f ds = some ps → DpAll K H vs ps
  | [], vs, ps, h, e => by
    simp only [RVs] at h; subst h
    simp only [pysO] at e; cases e
    exact .nil
  | d :: ds, vs, ps, h, e => by
    simp only [RVs] at h
    obtain ⟨v, r, rfl, h1, h2⟩ := h
    simp only [pysO] at e
    cases w1 : pyO f d with
    | none => rw [w1] at e; cases e
    | some x =>
      cases w2 : pysO f ds with
      | none => rw [w1, w2] at e; cases e
      | some xs =>
        rw [w1, w2] at e
        cases e
        exact .cons (rv_dp f hf d v x h1 w1) (rvs_dp f hf ds r xs h2 w2)
end
theorem loD_dp (R : RS CA K H ρ M) : ∀ (k n : Nat) (p : PyData) (v : V), loD M k n = some p → RV K H ρ (.loc n) v → Dp K H v p
  | 0, _, _, _, e, _ => by cases e
  | k + 1, n, p, v, e, h => by
    simp only [loD] at e
    split at e
    · rename_i xs q
      obtain ⟨a, vs, rfl, _, e2, r⟩ := rv_lst R h (lstAt_of q)
      cases w : pysO (loD M k) xs with
      | none => rw [w] at e; cases e
      | some ps =>
        rw [w] at e
        cases e
        exact .lst (SqL.of e2) (rvs_dp (loD M k) (fun n p v => loD_dp R k n p v) xs vs ps r w)
    · cases e
theorem py_dp (R : RS CA K H ρ M) {x : D} {v : V} {p : PyData} (h : RV K H ρ x v) (e : py M x = some p) : Dp K H v p := rv_dp (loD M 4) (fun n p v => loD_dp R 4 n p v) x v p h e
end
/-! ### equality -/
theorem eqV_sc {x y : V} (h : scal x y = true) (f : flatV x = true) : decide (x = y) = eqV x y := by
  cases x with
  | non => cases y <;> first | rfl | exact decide_eq_false (fun z => by cases z) | cases h
  | bl b => cases y with
    | bl c => exact dec_bl
    | _ => first | exact decide_eq_false (fun z => by cases z) | cases h
  | int b => cases y with
    | int c => exact dec_int
    | _ => first | exact decide_eq_false (fun z => by cases z) | cases h
  | str b => cases y with
    | str c => exact dec_str
    | _ => first | exact decide_eq_false (fun z => by cases z) | cases h
  | _ => cases f
section
variable {CA : Nat → Addr} {K : PySem.W.Frag} {H : Hp} {ρ : List Addr} {M : Store} {X : Cx}
/-- scalars -/
theorem sc_v {x : D} {v : V} (h : RV K H ρ x v) (s : x.sc = true) : flatV v = true := by
  cases x with
  | non => rw [rv_non h]; rfl
  | bl b => rw [rv_bl h]; rfl
  | int i => rw [rv_int h]; rfl
  | str z => rw [rv_str h]; rfl
  | _ => cases s
theorem eqS_V {x y : D} {v w : V} (h : RV K H ρ x v) (h' : RV K H ρ y w) (s : x.sc = true) (s' : y.sc = true) : eqS x y = eqV v w := by
  cases x with
  | non =>
    rw [rv_non h]
    cases y with
    | non => rw [rv_non h']; rfl
    | bl b => rw [rv_bl h']; rfl
    | int i => rw [rv_int h']; rfl
    | str z => rw [rv_str h']; rfl
    | _ => cases s'
  | bl b =>
    rw [rv_bl h]
    cases y with
    | non => rw [rv_non h']; rfl
    | bl b => rw [rv_bl h']; rfl
    | int i => rw [rv_int h']; rfl
    | str z => rw [rv_str h']; rfl
    | _ => cases s'
  | int i =>
    rw [rv_int h]
    cases y with
    | non => rw [rv_non h']; rfl
    | bl b => rw [rv_bl h']; rfl
    | int i => rw [rv_int h']; rfl
    | str z => rw [rv_str h']; rfl
    | _ => cases s'
  | str z =>
    rw [rv_str h]
    cases y with
    | non => rw [rv_non h']; rfl
    | bl b => rw [rv_bl h']; rfl
    | int i => rw [rv_int h']; rfl
    | str z => rw [rv_str h']; rfl
    | _ => cases s'
  | _ => cases s
theorem eqE_ok (hu : X.A.units + 64 < cLine) (R : RS CA X.K H ρ M) {x y : D} {v w : V} {b : Bool} {Q : VK} (h : RV X.K H ρ x v) (h' : RV X.K H ρ y w) (e : eqE M x y = some b) :
    (Q (.bl b) H → TMO X (compareOp .Eq) v w H Q) ∧ (Q (.bl (!b)) H → TMO X (compareOp .NotEq) v w H Q) := by
  have data : ∀ d e', Dp X.K H v d → Dp X.K H w e' → SeqAt.shaped d = true → SeqAt.shaped e' = true → PyData.eqv d e' = b → (Q (.bl b) H → TMO X (compareOp .Eq) v w H Q) ∧ (Q (.bl (!b)) H → TMO X (compareOp .NotEq) v w H Q) :=
    fun d e' h1 h2 h3 h4 h5 => ⟨fun q => tm_op (op_eqD hu) ⟨d, e', h1, h2, h3, h4, by rw [h5]; exact q⟩, fun q => tm_op (op_neD hu) ⟨d, e', h1, h2, h3, h4, by rw [h5]; exact q⟩⟩
  unfold eqE at e
  split at e
  · rename_i c
    obtain ⟨c1, c2⟩ := Bool.and_eq_true_iff.mp c
    cases e
    rw [eqS_V h h' c1 c2]
    by_cases sc : scal v w = true
    · rw [← eqV_sc sc (sc_v h c1)]
      exact ⟨fun q => tm_op op_eq ⟨sc, q⟩, fun q => tm_op op_ne ⟨sc, q⟩⟩
    · cases x with
      | bl b1 =>
        have ev := rv_bl h; subst ev
        cases y with
        | int j =>
          have ew := rv_int h'; subst ew
          exact ⟨fun q => tm_op (op_eqD hu) ⟨.bool b1, .int j, .bl _, .int _, (by cases b1 <;> rfl), rfl, q⟩, fun q => tm_op (op_neD hu) ⟨.bool b1, .int j, .bl _, .int _, (by cases b1 <;> rfl), rfl, q⟩⟩
        | bl b2 => have ew := rv_bl h'; subst ew; exact absurd rfl sc
        | non => have ew := rv_non h'; subst ew; exact absurd rfl sc
        | str z => have ew := rv_str h'; subst ew; exact absurd rfl sc
        | _ => cases c2
      | int i =>
        have ev := rv_int h; subst ev
        cases y with
        | bl b2 =>
          have ew := rv_bl h'; subst ew
          exact ⟨fun q => tm_op (op_eqD hu) ⟨.int i, .bool b2, .int _, .bl _, rfl, (by cases b2 <;> rfl), q⟩, fun q => tm_op (op_neD hu) ⟨.int i, .bool b2, .int _, .bl _, rfl, (by cases b2 <;> rfl), q⟩⟩
        | int b2 => have ew := rv_int h'; subst ew; exact absurd rfl sc
        | non => have ew := rv_non h'; subst ew; exact absurd rfl sc
        | str z => have ew := rv_str h'; subst ew; exact absurd rfl sc
        | _ => cases c2
      | non =>
        have ev := rv_non h; subst ev
        cases y with
        | bl b2 => have ew := rv_bl h'; subst ew; exact absurd rfl sc
        | int b2 => have ew := rv_int h'; subst ew; exact absurd rfl sc
        | non => have ew := rv_non h'; subst ew; exact absurd rfl sc
        | str z => have ew := rv_str h'; subst ew; exact absurd rfl sc
        | _ => cases c2
      | str i =>
        have ev := rv_str h; subst ev
        cases y with
        | bl b2 => have ew := rv_bl h'; subst ew; exact absurd rfl sc
        | int b2 => have ew := rv_int h'; subst ew; exact absurd rfl sc
        | non => have ew := rv_non h'; subst ew; exact absurd rfl sc
        | str z => have ew := rv_str h'; subst ew; exact absurd rfl sc
        | _ => cases c2
      | _ => cases c1
  · split at e
    · rename_i d e' q1 q2
      split at e
      · rename_i c
        obtain ⟨c1, c2⟩ := Bool.and_eq_true_iff.mp c
        cases e
        exact data d e' (py_dp R h q1) (py_dp R h' q2) c1 c2 rfl
      · cases e
    · cases e
end
end Dv
end

section
set_option Elab.async false
set_option autoImplicit false
set_option linter.all false
set_option maxRecDepth 100000
set_option maxHeartbeats 2000000
/-! DvF: operators, comparisons, items, slices. -/
namespace Dv
open PySem L2
def opP : Op → Operator
  | .add => .Add | .sub => .Sub | .mul => .Mult | .fdiv => .FloorDiv | .mod => .Mod | .pow => .Pow
def coP : Co → CmpOp
  | .lt => .Lt | .le => .LtE | .gt => .Gt | .ge => .GtE | .eq => .Eq | .ne => .NotEq | .inn => .In | .nin => .NotIn | .iss => .Is | .isn => .IsNot
theorem fold_rep (a : Array Nat) : ∀ (k : Nat) (acc : Array Nat), (List.replicate k a).foldl (· ++ ·) acc = acc ++ (List.replicate k a.toList).flatten.toArray
  | 0, acc => by simp
  | k + 1, acc => by
    rw [List.replicate_succ, List.foldl_cons, fold_rep a k, List.replicate_succ, List.flatten_cons, Array.append_assoc]
    congr 1
    apply Array.ext'
    simp
theorem flat_nil (k : Nat) : (List.replicate k ([] : List Nat)).flatten = [] := by
  induction k with
  | zero => rfl
  | succ k ih => rw [List.replicate_succ, List.flatten_cons, ih]; rfl
theorem op_repS {X : Cx} : OpR X (binaryOp .Mult) (fun x y H Q => ∃ (a : Str) (n : Int), x = .str a ∧ y = .int n ∧ 0 ≤ n ∧ n ≤ 1000 ∧ a.length ≤ 1000 ∧ Q (.str (repS a n.toNat)) H) := by
  intro pins s σ H x y v u Q I rx ry h
  obtain ⟨a, n, rfl, rfl, h0, h1, h2, q⟩ := h
  obtain ⟨t, rfl⟩ := rx
  obtain ⟨t', rfl⟩ := ry
  have hm : a.length * n.toNat ≤ 1000 * 1000 := Nat.mul_le_mul h2 (by omega)
  have ht : Builtin.Str.tooLong (a.length * n.toNat) = false := by
    unfold Builtin.Str.tooLong
    rw [decide_eq_false]
    have := PySem.sizeLine_eq
    omega
  refine PySem.P.mul_str (by rw [decide_eq_false (by omega), decide_eq_false (by omega)]; rfl) (fun a1 _ => ?_) (fun _ _ => ht) ?_
  · have : (1000 : Int) ≤ (2 ^ 63 - 1) / n := by
      have : 1000 * n ≤ 2 ^ 63 - 1 := by omega
      exact (Int.le_ediv_iff_mul_le (by omega)).mpr this
    omega
  · by_cases c : n < 1
    · rw [if_pos c]
      refine ⟨by decide, .str (repS a n.toNat), H, I.tok _, ⟨s.toks, ?_⟩, q⟩
      have e : n.toNat = 0 := by omega
      rw [e]
      rfl
    · rw [if_neg c]
      by_cases c2 : (n == 1 || a.length == 0) = true
      · rw [if_pos c2]
        refine ⟨.str (repS a n.toNat), H, I, ⟨t, ?_⟩, q⟩
        rcases Bool.or_eq_true_iff.mp c2 with z | z
        · have e : n = 1 := by simpa using z
          subst e
          unfold repS
          simp
        · have e : a.cps.toList = [] := by
            have z' : a.cps.size = 0 := by simpa [Str.length] using z
            simpa using z'
          unfold repS
          rw [e, flat_nil]
          have e2 : a = ⟨#[]⟩ := by
            cases a with
            | mk c => congr 1; apply Array.ext'; exact e
          rw [e2]
      · rw [if_neg c2]
        refine ⟨?_, .str (repS a n.toNat), H, I.tok _, ⟨s.toks, ?_⟩, q⟩
        · rw [fold_rep]
          unfold Str.length
          have e : (List.replicate n.toNat a.cps.toList).flatten.length = n.toNat * a.length := by simp [Str.length]
          rw [Array.size_append]
          show 0 + (List.replicate n.toNat a.cps.toList).flatten.toArray.size ≤ sizeLine
          rw [Nat.zero_add, List.size_toArray, e, Nat.mul_comm]
          exact Nat.le_trans hm (by decide)
        · rw [fold_rep]
          simp [repS]
section
variable {CA : Nat → Addr} {H : Hp} {ρ : List Addr} {M : Store} {X : Cx} {W : WX} {σ : L2.St}
theorem binE_ok (o : Op) (R : RS CA X.K H ρ M) {x y : D} {v w : V} {Q : VK} (h : RV X.K H ρ x v) (h' : RV X.K H ρ y w) (p : Post CA X.K W σ H ρ (binE o M x y) (kV' X.K Q)) : TMO X (binaryOp (opP o)) v w H Q := by
  unfold binE at p
  split at p
  · have := rv_int h; have := rv_int h'; subst v w
    exact tm_op op_add ⟨_, _, rfl, rfl, p.here R _ of_int⟩
  · have := rv_str h; have := rv_str h'; subst v w
    obtain ⟨c, p⟩ := p.if_
    exact tm_op op_add_str ⟨_, _, rfl, rfl, c, p.here R _ of_str⟩
  · rename_i a b
    obtain ⟨t, vs, rfl, e1, r1⟩ := rv_tup h
    obtain ⟨t', vs', rfl, e2, r2⟩ := rv_tup h'
    obtain ⟨c, p⟩ := p.if_
    refine tm_op op_catA ⟨t, t', vs, vs', rfl, rfl, SqT.of e1, SqT.of e2, by rw [RVs.length r1, RVs.length r2]; exact c, fun z => ?_, fun _ z => ?_, fun _ _ q hq => p.tup R (RVs.app r1 r2) q hq⟩
    · subst z
      have ea : a = [] := by
        have := RVs.length r1
        exact List.eq_nil_of_length_eq_zero this.symm
      subst ea
      exact p.here R _ h'
    · subst z
      have eb : b = [] := by
        have := RVs.length r2
        exact List.eq_nil_of_length_eq_zero this.symm
      subst eb
      rw [List.append_nil] at p
      exact p.here R _ h
  · split at p
    · rename_i q1 q2
      obtain ⟨a, vs, rfl, _, e1, r1⟩ := rv_lst R h q1
      obtain ⟨b, ws, rfl, _, e2, r2⟩ := rv_lst R h' q2
      obtain ⟨c, p⟩ := p.if_
      refine tm_op op_cat ⟨a, b, vs, ws, rfl, rfl, e1, e2, by rw [RVs.length r1, RVs.length r2, ← List.length_append]; exact c, fun q hq => p.mk R ⟨_, rfl, RVs.app r1 r2⟩ q hq⟩
    · exact p.elim
  · have := rv_int h; have := rv_int h'; subst v w
    exact tm_op op_sub ⟨_, _, rfl, rfl, p.here R _ of_int⟩
  · have := rv_int h; have := rv_int h'; subst v w
    obtain ⟨c, p⟩ := p.if_
    rcases c with c | c | c
    · exact tm_op op_mul ⟨_, _, rfl, rfl, .inl (by omega), p.here R _ of_int⟩
    · exact tm_op op_mul ⟨_, _, rfl, rfl, .inr (by omega), p.here R _ of_int⟩
    · exact tm_op op_mulW ⟨_, _, rfl, rfl, c, p.here R _ of_int⟩
  · have := rv_str h; have := rv_int h'; subst v w
    obtain ⟨c, p⟩ := p.if_
    exact tm_op op_repS ⟨_, _, rfl, rfl, c.1, c.2.1, c.2.2, p.here R _ of_str⟩
  · have := rv_int h; have := rv_int h'; subst v w
    obtain ⟨c, p⟩ := p.if_
    exact tm_op op_fdivW ⟨_, _, rfl, rfl, wide_div (b := 64) c.1 (by omega) (by decide) (by decide), p.here R _ of_int⟩
  · have := rv_int h; have := rv_int h'; subst v w
    obtain ⟨c, p⟩ := p.if_
    exact tm_op op_mod ⟨_, _, rfl, rfl, c, p.here R _ of_int⟩
  · have := rv_int h; have := rv_int h'; subst v w
    obtain ⟨c, p⟩ := p.if_
    exact tm_op op_pow ⟨_, _, rfl, rfl, ⟨c.1, c.2.1, by omega⟩, p.here R _ of_int⟩
  · exact p.elim
/-- flat items -/
theorem flat_all : ∀ {ys : List D} {vs : List V}, RVs X.K H ρ ys vs → ys.all D.sc = true → vs.all flatV = true
  | [], vs, r, _ => by simp only [RVs] at r; subst r; rfl
  | y :: ys, vs, r, f => by
    simp only [RVs] at r
    obtain ⟨v, r', rfl, h1, h2⟩ := r
    obtain ⟨f1, f2⟩ := Bool.and_eq_true_iff.mp (show (y.sc && ys.all D.sc) = true from f)
    show (flatV v && r'.all flatV) = true
    rw [sc_v h1 f1, flat_all h2 f2]
    rfl
theorem inV_of {x : D} {v : V} (h : RV X.K H ρ x v) (s : x.sc = true) : ∀ {ys : List D} {vs : List V}, RVs X.K H ρ ys vs → ys.all D.sc = true → inV v vs = ys.any fun y => eqS y x
  | [], vs, r, _ => by simp only [RVs] at r; subst r; rfl
  | y :: ys, vs, r, f => by
    simp only [RVs] at r
    obtain ⟨w, r', rfl, h1, h2⟩ := r
    obtain ⟨f1, f2⟩ := Bool.and_eq_true_iff.mp (show (y.sc && ys.all D.sc) = true from f)
    show (eqV w v || inV v r') = (eqS y x || ys.any fun y => eqS y x)
    rw [eqS_V h1 h f1 s, inV_of h s h2 f2]
theorem find_map {κ : Type} [DecidableEq κ] : ∀ (kvs : List (κ × D)) (ws : List (κ × V)) (k : κ), ws.map (·.1) = kvs.map (·.1) → RVs X.K H ρ (kvs.map (·.2)) (ws.map (·.2)) →
    (∀ d, valK kvs k = some d → ∃ v, valV ws k = some v ∧ RV X.K H ρ d v) ∧ (valK kvs k = none → valV ws k = none)
  | [], [], _, _, _ => ⟨fun d e => (by cases e), fun _ => rfl⟩
  | [], _ :: _, _, e, _ => by cases e
  | _ :: _, [], _, e, _ => by cases e
  | (a, d) :: kvs, (b, v) :: ws, k, e, r => by
    simp only [List.map_cons, List.cons.injEq] at e
    obtain ⟨e1, e2⟩ := e
    subst e1
    simp only [List.map_cons, RVs] at r
    obtain ⟨v', r', er, h1, h2⟩ := r
    injection er with er1 er2
    subst er1 er2
    obtain ⟨i1, i2⟩ := find_map kvs ws k e2 h2
    unfold valK valV at i1 i2 ⊢
    by_cases c : b = k
    · rw [List.find?_cons_of_pos (by simpa using c), List.find?_cons_of_pos (by simpa using c)]
      exact ⟨fun x ex => (by cases ex; exact ⟨v, rfl, h1⟩), fun ex => (by cases ex)⟩
    · rw [List.find?_cons_of_neg (by simpa using c), List.find?_cons_of_neg (by simpa using c)]
      exact ⟨i1, i2⟩
theorem key_rv {x : D} {k : Key} {v : V} (h : RV X.K H ρ x v) (e : x.key? = some k) : v = kV k := by
  cases x with
  | int i => cases e; exact rv_int h
  | str z => cases e; exact rv_str h
  | _ => cases e
theorem keys_rv : ∀ {xs : List D} {ks : List Key} {vs : List V}, RVs X.K H ρ xs vs → keysOf xs = some ks → vs = ks.map kV
  | [], ks, vs, r, e => by
    simp only [RVs] at r; subst r
    simp only [keysOf] at e; cases e
    rfl
  | x :: xs, ks, vs, r, e => by
    simp only [RVs] at r
    obtain ⟨v, r', rfl, h1, h2⟩ := r
    simp only [keysOf] at e
    cases q1 : x.key? with
    | none => rw [q1] at e; cases e
    | some k =>
      cases q2 : keysOf xs with
      | none => rw [q1, q2] at e; cases e
      | some ks' =>
        rw [q1, q2] at e
        cases e
        rw [key_rv h1 q1, keys_rv h2 q2]
        rfl
theorem inE_ok (hu : X.A.units + 65 < cLine) (R : RS CA X.K H ρ M) {x y : D} {v w : V} {b : Bool} {Q : VK} (h : RV X.K H ρ x v) (h' : RV X.K H ρ y w) (e : inE M x y = some b) :
    (Q (.bl b) H → TMO X (compareOp .In) v w H Q) ∧ (Q (.bl (!b)) H → TMO X (compareOp .NotIn) v w H Q) := by
  unfold inE at e
  split at e
  · split at e
    · rename_i a
      split at e
      · rename_i c ec
        have := rv_str h; have := rv_str h'; subst v w
        have ea : a = ⟨#[c]⟩ := by
          cases a with
          | mk l => congr 1; apply Array.ext'; exact ec
        subst ea
        cases e
        exact ⟨fun q => tm_op op_in_sign ⟨_, _, rfl, rfl, q⟩, fun q => tm_op op_notIn_sign ⟨_, _, rfl, rfl, q⟩⟩
      · cases e
    · cases e
  · split at e
    · rename_i ys q0
      obtain ⟨a, vs, rfl, _, e2, r⟩ := rv_lst R h' (lstAt_of q0)
      split at e
      · rename_i c
        obtain ⟨c1, c2⟩ := Bool.and_eq_true_iff.mp c
        cases e
        refine ⟨fun q => tm_op op_in_seq ⟨a, vs, rfl, .inl (SqL.of e2), sc_v h c1, flat_all r c2, ?_⟩, fun q => tm_op op_notIn_seq ⟨a, vs, rfl, .inl (SqL.of e2), sc_v h c1, flat_all r c2, ?_⟩⟩
        · rw [if_neg Bool.false_ne_true, inV_of h c1 r c2]; exact q
        · rw [if_pos rfl, inV_of h c1 r c2]; exact q
      · split at e
        · rename_i d ds q1 q2
          split at e
          · rename_i c
            obtain ⟨c1, c2⟩ := Bool.and_eq_true_iff.mp c
            cases e
            exact ⟨fun q => tm_op (op_inD hu) ⟨d, ds, py_dp R h q1, py_dp R h' q2, c1, c2, q⟩, fun q => tm_op (op_notInD hu) ⟨d, ds, py_dp R h q1, py_dp R h' q2, c1, c2, q⟩⟩
          · cases e
        · cases e
    · rename_i kvs q0
      obtain ⟨a, u, rfl, _, e2, ws, rfl, ek, r⟩ := rv_obj R h' q0
      split at e
      · rename_i k qk
        cases e
        have ev := key_rv h qk
        subst ev
        obtain ⟨i1, i2⟩ := find_map (X := X) kvs ws k ek r
        have g : DGet H a (L2.kV k) (valV ws k) := DGet.k e2
        have eb : (valV ws k).isSome = (valK kvs k).isSome := by
          cases q : valK kvs k with
          | none => rw [i2 q]; rfl
          | some d => obtain ⟨v, hv, _⟩ := i1 d q; rw [hv]; rfl
        refine ⟨fun q pins s σ v u I rx ry => ?_, fun q pins s σ v u I rx ry => ?_⟩
        · obtain rfl : u = Value.ref a := ry
          exact d_in (by omega) I g rx fun s' I' => ⟨.bl (valV ws k).isSome, H, I', rfl, by rw [eb]; exact q⟩
        · obtain rfl : u = Value.ref a := ry
          exact d_notIn (by omega) I g rx fun s' I' => ⟨.bl (!(valV ws k).isSome), H, I', rfl, by rw [eb]; exact q⟩
      · cases e
    · cases e
  · split at e
    · rename_i c
      obtain ⟨a, vs, rfl, e2, r⟩ := rv_tup h'
      obtain ⟨c1, c2⟩ := Bool.and_eq_true_iff.mp c
      cases e
      refine ⟨fun q => tm_op op_in_seq ⟨a, vs, rfl, .inr (SqT.of e2), sc_v h c1, flat_all r c2, ?_⟩, fun q => tm_op op_notIn_seq ⟨a, vs, rfl, .inr (SqT.of e2), sc_v h c1, flat_all r c2, ?_⟩⟩
      · rw [if_neg Bool.false_ne_true, inV_of h c1 r c2]; exact q
      · rw [if_pos rfl, inV_of h c1 r c2]; exact q
    · cases e
  · rename_i ys
    split at e
    · rename_i c1
      obtain ⟨a, rfl, e2⟩ := rv_ktp h'
      cases e
      have r : RVs X.K H ρ (ys.map D.str) (ys.map V.str) := RVs.of_strs
      have c2 : (ys.map D.str).all D.sc = true := by simp [D.sc]
      have e3 : inV v (ys.map V.str) = ys.any fun y => eqS (.str y) x := by
        rw [inV_of h c1 r c2, List.any_map]
        rfl
      refine ⟨fun q => tm_op op_in_seq ⟨a, _, rfl, .inr (.inr e2), sc_v h c1, flat_all r c2, ?_⟩, fun q => tm_op op_notIn_seq ⟨a, _, rfl, .inr (.inr e2), sc_v h c1, flat_all r c2, ?_⟩⟩
      · rw [if_neg Bool.false_ne_true, e3]; exact q
      · rw [if_pos rfl, e3]; exact q
    · cases e
  · cases e
theorem cmpE_ok (o : Co) (hu : X.A.units + 65 < cLine) (R : RS CA X.K H ρ M) {x y : D} {v w : V} {b : Bool} {Q : VK} (h : RV X.K H ρ x v) (h' : RV X.K H ρ y w) (e : cmpE o M x y = some b) (q : Q (.bl b) H) : TMO X (compareOp (coP o)) v w H Q := by
  cases o with
  | lt =>
    simp only [cmpE] at e
    split at e
    · have := rv_int h; have := rv_int h'; subst v w; cases e
      exact tm_op op_lt ⟨_, _, rfl, rfl, q⟩
    · cases e
  | le =>
    simp only [cmpE] at e
    split at e
    · have := rv_int h; have := rv_int h'; subst v w; cases e
      exact tm_op op_le ⟨_, _, rfl, rfl, q⟩
    · cases e
  | gt =>
    simp only [cmpE] at e
    split at e
    · have := rv_int h; have := rv_int h'; subst v w; cases e
      exact tm_op op_gt ⟨_, _, rfl, rfl, q⟩
    · cases e
  | ge =>
    simp only [cmpE] at e
    split at e
    · have := rv_int h; have := rv_int h'; subst v w; cases e
      exact tm_op op_ge ⟨_, _, rfl, rfl, q⟩
    · cases e
  | eq => exact (eqE_ok (by omega) R h h' e).1 q
  | ne =>
    simp only [cmpE] at e
    cases z : eqE M x y with
    | none => rw [z] at e; cases e
    | some c =>
      rw [z] at e
      cases e
      exact (eqE_ok (by omega) R h h' z).2 q
  | inn => exact (inE_ok hu R h h' e).1 q
  | nin =>
    simp only [cmpE] at e
    cases z : inE M x y with
    | none => rw [z] at e; cases e
    | some c =>
      rw [z] at e
      cases e
      exact (inE_ok hu R h h' z).2 q
  | iss =>
    simp only [cmpE] at e
    split at e
    · have ew := rv_non h'; subst ew
      cases e
      refine tm_op op_isN ⟨rfl, ?_⟩
      cases x with
      | non => rw [rv_non h]; exact q
      | bl b => rw [rv_bl h]; exact q
      | int b => rw [rv_int h]; exact q
      | str b => rw [rv_str h]; exact q
      | tup b => obtain ⟨t, vs, rfl, _⟩ := rv_tup h; exact q
      | ktp b => obtain ⟨t, rfl, _⟩ := rv_ktp h; exact q
      | loc b => obtain ⟨t, _, rfl⟩ := rv_loc h; exact q
      | rol b => obtain ⟨t, rfl, _⟩ := rv_rol h; exact q
    · cases e
  | isn =>
    simp only [cmpE] at e
    split at e
    · have ew := rv_non h'; subst ew
      cases e
      refine tm_op op_notN ⟨rfl, ?_⟩
      cases x with
      | non => rw [rv_non h]; exact q
      | bl b => rw [rv_bl h]; exact q
      | int b => rw [rv_int h]; exact q
      | str b => rw [rv_str h]; exact q
      | tup b => obtain ⟨t, vs, rfl, _⟩ := rv_tup h; exact q
      | ktp b => obtain ⟨t, rfl, _⟩ := rv_ktp h; exact q
      | loc b => obtain ⟨t, _, rfl⟩ := rv_loc h; exact q
      | rol b => obtain ⟨t, rfl, _⟩ := rv_rol h; exact q
    · cases e
theorem atI_rv {xs : List D} {vs : List V} {i : Int} {d : D} (r : RVs X.K H ρ xs vs) (e : atI xs i = some d) : ∃ v, atI vs i = some v ∧ RV X.K H ρ d v := by
  unfold atI at e ⊢
  rw [RVs.length r]
  cases q : ixN xs.length i with
  | none => rw [q] at e; cases e
  | some j =>
    rw [q] at e
    exact RVs.get r e
theorem idxE_ok {a b : Expr} (hs : PlainIx b) (hu : X.A.units + 1 < cLine) (R : RS CA X.K H ρ M) {x y d : D} {v w : V} {Q : VK} (h : RV X.K H ρ x v) (h' : RV X.K H ρ y w) (e : idxE M x y = some d) (q : ∀ z, RV X.K H ρ d z → Q z H) : TMG X a b v w H Q := by
  unfold idxE at e
  split at e
  · rename_i z
    split at e
    · rename_i i
      split at e
      · rename_i c
        have := rv_str h; have := rv_int h'; subst v w
        cases z2 : atI z.cps.toList i with
        | none => rw [z2] at e; cases e
        | some k =>
          rw [z2] at e
          cases e
          exact tm_ix ix_str hs ⟨z, i, k, rfl, rfl, c, z2, q _ of_str⟩
      · cases e
    · cases e
  · split at e
    · obtain ⟨t, vs, rfl, e2, r⟩ := rv_tup h
      have := rv_int h'; subst w
      obtain ⟨u, e3, r3⟩ := atI_rv r e
      exact tm_ix ix_tup hs ⟨t, vs, _, u, rfl, rfl, SqT.of e2, e3, q _ r3⟩
    · cases e
  · rename_i xs
    split at e
    · rename_i i
      obtain ⟨t, rfl, e2⟩ := rv_rol h
      have := rv_int h'; subst w
      have e' : atI (xs.map D.int) i = some d := by
        unfold atI at e ⊢
        rw [List.length_map]
        cases q : ixN xs.length i with
        | none => rw [q] at e; cases e
        | some j =>
          rw [q] at e
          show (xs.map D.int)[j]? = some d
          rw [List.getElem?_map]
          exact e
      obtain ⟨u, e3, r3⟩ := atI_rv (X := X) (H := H) (ρ := ρ) RVs.of_ints e'
      exact tm_ix ix_list hs ⟨t, _, _, u, rfl, rfl, e2.sq, e3, q _ r3⟩
    · cases e
  · split at e
    · rename_i q0
      split at e
      · obtain ⟨t, vs, rfl, _, e2, r⟩ := rv_lst R h (lstAt_of q0)
        have := rv_int h'; subst w
        obtain ⟨u, e3, r3⟩ := atI_rv r e
        exact tm_ix ix_list hs ⟨t, vs, _, u, rfl, rfl, SqL.of e2, e3, q _ r3⟩
      · cases e
    · rename_i kvs q0
      obtain ⟨t, u, rfl, _, e2, ws, rfl, ek, r⟩ := rv_obj R h q0
      split at e
      · rename_i k qk
        have ev := key_rv h' qk
        subst ev
        obtain ⟨z, e3, r3⟩ := (find_map (X := X) kvs ws k ek r).1 d e
        exact tm_dix hu hs ⟨t, z, rfl, by rw [← e3]; exact DGet.k e2, q _ r3⟩
      · cases e
    · rename_i kvs q0
      obtain ⟨t, u, rfl, _, e2, ws, rfl, ek, r⟩ := rv_obj R h q0
      split at e
      · split at e
        · rename_i ks ksd k qk
          obtain ⟨t', vs', rfl, e4, r4⟩ := rv_tup h'
          have ev := keys_rv r4 qk
          subst ev
          obtain ⟨z, e3, r3⟩ := (find_map (X := X) kvs ws k ek r).1 d e
          exact tm_dix hu hs ⟨t, z, rfl, by rw [← e3]; exact DGet.t e2 e4, q _ r3⟩
        · cases e
      · cases e
    · cases e
  · cases e
end
end Dv
end

section
set_option Elab.async false
set_option autoImplicit false
set_option linter.all false
set_option maxRecDepth 100000
set_option maxHeartbeats 2000000
/-! DvG: truth, slices, built-in functions and methods. -/
namespace Dv
open PySem L2
section
variable {CA : Nat → Addr} {H : Hp} {ρ : List Addr} {M : Store} {X : Cx} {W : WX} {σ : L2.St}
theorem isEmpty_rvs {xs : List D} {vs : List V} (r : RVs X.K H ρ xs vs) : xs.isEmpty = vs.isEmpty := by
  cases xs with
  | nil => simp only [RVs] at r; subst r; rfl
  | cons x xs => simp only [RVs] at r; obtain ⟨v, r', rfl, _⟩ := r; rfl
theorem truD_ok (R : RS CA X.K H ρ M) {x : D} {v : V} {b : Bool} (h : RV X.K H ρ x v) (e : truD M x = some b) : TruV X.K v H b := by
  unfold truD at e
  split at e
  · rw [rv_non h]; cases e; rfl
  · rw [rv_bl h]; cases e; rfl
  · rw [rv_int h]; cases e; rfl
  · rename_i s
    split at e
    · rename_i c
      rw [rv_str h]; cases e
      refine ⟨c, ?_⟩
      cases q : s.length with
      | zero => rfl
      | succ n =>
        have : ((n + 1 : Nat) : Int) ≠ 0 := by omega
        rw [bne_iff_ne.mpr this]
        rfl
    · cases e
  · obtain ⟨t, vs, rfl, e2, r⟩ := rv_tup h
    cases e
    exact .inr (.inl ⟨vs, SqT.of e2, by rw [isEmpty_rvs r]⟩)
  · obtain ⟨t, rfl, e2⟩ := rv_rol h
    cases e
    refine .inl ⟨_, e2.sq, ?_⟩
    simp
  · cases e
  · split at e
    · rename_i q
      obtain ⟨t, vs, rfl, _, e2, r⟩ := rv_lst R h (lstAt_of q)
      cases e
      exact .inl ⟨vs, SqL.of e2, by rw [isEmpty_rvs r]⟩
    · rename_i kvs q
      obtain ⟨t, u, rfl, _, e2, ws, rfl, ek, r⟩ := rv_obj R h q
      cases e
      refine .inr (.inr ⟨ws, e2, ?_⟩)
      have hl : ws.length = kvs.length := by
        have := congrArg List.length ek
        simpa using this
      cases kvs with
      | nil => cases ws with
        | nil => rfl
        | cons _ _ => cases hl
      | cons _ _ => cases ws with
        | nil => cases hl
        | cons _ _ => rfl
    · cases e
/-- slices -/
theorem cut_rv {xs : List D} {vs : List V} (lo hi : Option Int) (r : RVs X.K H ρ xs vs) : RVs X.K H ρ (cutD xs lo hi) (cutV vs lo hi) := by
  unfold cutD cutV
  rw [RVs.length r]
  exact RVs.take _ (RVs.drop _ r)
theorem cut_all {xs : List D} {lo hi : Option Int} (h1 : HT.sIx xs.length 0 lo = 0) (h2 : HT.sIx xs.length xs.length hi = xs.length) : cutD xs lo hi = xs := by
  unfold cutD
  rw [h1, h2, List.drop_zero, Nat.sub_zero, List.take_length]
def TSl (X : Cx) (x : V) (lo hi : Option Int) (H : Hp) (Q : VK) : Prop := ∀ (pins : List (Addr × Obj)) (s : Shared) (σ : L2.St) (v vl vu : Value) (sl : Addr), Inv X pins σ H s → RelV x v → s.heap.IsSliceOf sl vl vu .none → IsPart vl lo → IsPart vu hi →
    ∃ T id, typeLookup (.type T) "__getitem__" = pure (some (.builtin id)) ∧ s.TypeIs v T ∧ wpAny (model X.prog X.w) X.A (getItem v (.ref sl)) (EP X pins σ Q) X.xe s
theorem sl_tm : SlR X (fun x lo hi H Q => TSl X x lo hi H Q) := fun pins s σ H x v vl vu lo hi sl Q I rx hs pl pu h => h pins s σ v vl vu sl I rx hs pl pu
theorem tm_sl {r : V → Option Int → Option Int → Hp → VK → Prop} {x : V} {lo hi : Option Int} {Q : VK} (h : SlR X r) (q : r x lo hi H Q) : TSl X x lo hi H Q := fun pins s σ v vl vu sl I rx hs pl pu => h pins s σ H x v vl vu lo hi sl Q I rx hs pl pu q
theorem slcE_ok (R : RS CA X.K H ρ M) {x : D} {v : V} {lo hi : Option Int} {Q : VK} (h : RV X.K H ρ x v) (p : Post CA X.K W σ H ρ (slcE M x lo hi) (kV' X.K Q)) : TSl X v lo hi H Q := by
  unfold slcE at p
  split at p
  · have := rv_str h; subst v
    obtain ⟨c, p⟩ := p.if_
    exact tm_sl sl_str ⟨_, rfl, c, p.here R _ of_str⟩
  · rename_i xs
    obtain ⟨t, vs, rfl, e2, r⟩ := rv_tup h
    have hl := RVs.length r
    refine tm_sl sl_tupA ⟨t, vs, rfl, SqT.of e2, fun hw => ?_, fun _ q hq => p.tup R (cut_rv lo hi r) q hq⟩
    rw [hl] at hw
    rw [cut_all hw.1 hw.2] at p
    exact p.here R _ h
  · split at p
    · rename_i q0
      obtain ⟨t, vs, rfl, _, e2, r⟩ := rv_lst R h q0
      exact tm_sl sl_list ⟨t, vs, rfl, SqL.of e2, fun q hq => p.mk R ⟨_, rfl, cut_rv lo hi r⟩ q hq⟩
    · exact p.elim
  · exact p.elim
/-! sorted -/
theorem insI_perm (i : Int) : ∀ l : List Int, (insI i l).Perm (i :: l)
  | [] => List.Perm.refl _
  | j :: r => by
    unfold insI
    split
    · exact List.Perm.refl _
    · exact ((insI_perm i r).cons j).trans (List.Perm.swap i j r)
theorem sortI_perm : ∀ l : List Int, (sortI l).Perm l
  | [] => List.Perm.refl _
  | i :: r => (insI_perm i (sortI r)).trans ((sortI_perm r).cons i)
theorem insI_sorted (i : Int) : ∀ l : List Int, l.Pairwise (· ≤ ·) → (insI i l).Pairwise (· ≤ ·)
  | [], _ => List.pairwise_singleton _ _
  | j :: r, h => by
    unfold insI
    obtain ⟨h1, h2⟩ := List.pairwise_cons.mp h
    split
    · rename_i c
      refine List.pairwise_cons.mpr ⟨fun x hx => ?_, h⟩
      rcases List.mem_cons.mp hx with rfl | hx
      · exact c
      · exact Int.le_trans c (h1 x hx)
    · rename_i c
      refine List.pairwise_cons.mpr ⟨fun x hx => ?_, insI_sorted i r h2⟩
      rcases List.mem_cons.mp ((insI_perm i r).mem_iff.mp hx) with rfl | hx
      · omega
      · exact h1 x hx
theorem sortI_sorted : ∀ l : List Int, (sortI l).Pairwise (· ≤ ·)
  | [] => List.Pairwise.nil
  | i :: r => insI_sorted i _ (sortI_sorted r)
theorem sortI_uniq {l m : List Int} (p : m.Perm l) (s : m.Pairwise (· ≤ ·)) : m = sortI l :=
  (p.trans (sortI_perm l).symm).eq_of_pairwise (fun a b _ _ h1 h2 => Int.le_antisymm h1 h2) s (sortI_sorted l)
def LeP (a b : Int × Int) : Prop := a.1 < b.1 ∨ (a.1 = b.1 ∧ a.2 ≤ b.2)
theorem leP_iff {a b : Int × Int} : leP a b = true ↔ LeP a b := by
  unfold leP LeP
  simp
theorem insP_perm (i : Int × Int) : ∀ l : List (Int × Int), (insP i l).Perm (i :: l)
  | [] => List.Perm.refl _
  | j :: r => by
    unfold insP
    split
    · exact List.Perm.refl _
    · exact ((insP_perm i r).cons j).trans (List.Perm.swap i j r)
theorem sortP_perm : ∀ l : List (Int × Int), (sortP l).Perm l
  | [] => List.Perm.refl _
  | i :: r => (insP_perm i (sortP r)).trans ((sortP_perm r).cons i)
theorem insP_sorted (i : Int × Int) : ∀ l : List (Int × Int), l.Pairwise LeP → (insP i l).Pairwise LeP
  | [], _ => List.pairwise_singleton _ _
  | j :: r, h => by
    unfold insP
    obtain ⟨h1, h2⟩ := List.pairwise_cons.mp h
    split
    · rename_i c
      have c := leP_iff.mp c
      refine List.pairwise_cons.mpr ⟨fun x hx => ?_, h⟩
      rcases List.mem_cons.mp hx with rfl | hx
      · exact c
      · have := h1 x hx
        unfold LeP at *
        omega
    · rename_i c
      have c : ¬ LeP i j := fun z => c (leP_iff.mpr z)
      refine List.pairwise_cons.mpr ⟨fun x hx => ?_, insP_sorted i r h2⟩
      rcases List.mem_cons.mp ((insP_perm i r).mem_iff.mp hx) with rfl | hx
      · unfold LeP at *
        omega
      · exact h1 x hx
theorem sortP_sorted : ∀ l : List (Int × Int), (sortP l).Pairwise LeP
  | [] => List.Pairwise.nil
  | i :: r => insP_sorted i _ (sortP_sorted r)
theorem sortP_uniq {l m : List (Int × Int)} (p : m.Perm l) (s : m.Pairwise LeP) : m = sortP l :=
  (p.trans (sortP_perm l).symm).eq_of_pairwise (fun a b _ _ h1 h2 => by
    unfold LeP at h1 h2
    ext <;> omega) s (sortP_sorted l)
theorem pairsOf_eq : ∀ {ds : List D} {ps : List (Int × Int)}, pairsOf ds = some ps → ds = ps.map pairD
  | [], ps, h => by simp only [pairsOf] at h; cases h; rfl
  | d :: r, ps, h => by
    unfold pairsOf at h
    split at h
    · rename_i e
      cases e
    · rename_i e
      cases e
      cases q : pairsOf r with
      | none => rw [q] at h; cases h
      | some js =>
        rw [q] at h
        cases h
        rw [pairsOf_eq q]
        rfl
    · cases h
theorem pair_rv {p : Int × Int} {v : V} (h : RV X.K H ρ (pairD p) v) : ∃ t, v = .ref t ∧ H t = some (.tup [.int p.1, .int p.2]) := by
  obtain ⟨t, vs, rfl, e, r⟩ := rv_tup h
  simp only [RVs] at r
  obtain ⟨a, r', rfl, ha, b, r'', rfl, hb, rfl⟩ := r
  rw [rv_int ha, rv_int hb] at e
  exact ⟨t, rfl, e⟩
def keyP (H : Hp) (v : V) : Int × Int := match v with
  | .ref t => match H t with
    | some (.tup [.int i, .int j]) => (i, j)
    | _ => (0, 0)
  | _ => (0, 0)
theorem keyP_of {t : Addr} {i j : Int} (e : H t = some (.tup [.int i, .int j])) : keyP H (.ref t) = (i, j) := by
  show (match H t with
    | some (.tup [.int i, .int j]) => (i, j)
    | _ => ((0 : Int), (0 : Int))) = (i, j)
  rw [e]
theorem pairs_rv : ∀ {ps : List (Int × Int)} {vs : List V}, RVs X.K H ρ (ps.map pairD) vs → (∀ x ∈ vs, ∃ t, x = V.ref t ∧ H t = some (.tup [.int (keyP H x).1, .int (keyP H x).2])) ∧ vs.map (keyP H) = ps
  | [], vs, r => by simp only [List.map_nil, RVs] at r; subst r; exact ⟨fun x hx => (by cases hx), rfl⟩
  | p :: ps, vs, r => by
    simp only [List.map_cons, RVs] at r
    obtain ⟨v, r', rfl, h1, h2⟩ := r
    obtain ⟨i1, i2⟩ := pairs_rv h2
    obtain ⟨t, rfl, e⟩ := pair_rv h1
    have ek : keyP H (.ref t) = p := keyP_of e
    refine ⟨fun x hx => ?_, by rw [List.map_cons, ek, i2]⟩
    rcases List.mem_cons.mp hx with rfl | hx
    · exact ⟨t, rfl, by rw [ek]; exact e⟩
    · exact i1 x hx
theorem rv_pairs : ∀ {vs : List V}, (∀ x ∈ vs, ∃ t, x = V.ref t ∧ H t = some (.tup [.int (keyP H x).1, .int (keyP H x).2])) → RVs X.K H ρ ((vs.map (keyP H)).map pairD) vs
  | [], _ => RVs.nil
  | v :: vs, h => by
    obtain ⟨t, rfl, e⟩ := h v List.mem_cons_self
    refine RVs.cons ?_ (rv_pairs fun x hx => h x (List.mem_cons_of_mem _ hx))
    unfold pairD
    simp only [RV]
    exact ⟨t, _, rfl, e, RVs.cons of_int (RVs.cons of_int RVs.nil)⟩
theorem maxI_is : ∀ {is : List Int} {m k : Int}, maxI is = some k → m ∈ is → (∀ y, y ∈ is → y ≤ m) → m = k
  | [], _, _, e, _, _ => by cases e
  | i :: r, m, k, e, hm, hle => by
    unfold maxI at e
    have key : ∀ {r : List Int} {z : Int}, maxI r = some z → z ∈ r ∧ ∀ y, y ∈ r → y ≤ z := by
      intro r
      induction r with
      | nil => intro z e; cases e
      | cons a r ih =>
        intro z e
        unfold maxI at e
        split at e
        · rename_i q
          cases e
          cases r with
          | nil => exact ⟨List.mem_cons_self, fun y hy => by simp at hy; omega⟩
          | cons b r =>
            unfold maxI at q
            split at q <;> cases q
        · rename_i u q
          cases e
          obtain ⟨h1, h2⟩ := ih q
          by_cases c : u > a
          · rw [if_pos c]
            exact ⟨List.mem_cons_of_mem _ h1, fun y hy => by
              rcases List.mem_cons.mp hy with rfl | hy
              · omega
              · exact h2 y hy⟩
          · rw [if_neg c]
            exact ⟨List.mem_cons_self, fun y hy => by
              rcases List.mem_cons.mp hy with rfl | hy
              · omega
              · have := h2 y hy; omega⟩
    have e' : maxI (i :: r) = some k := by unfold maxI; exact e
    obtain ⟨h1, h2⟩ := key e'
    have a := hle k h1
    have b := h2 m hm
    omega
theorem minI_is : ∀ {is : List Int} {m k : Int}, minI is = some k → m ∈ is → (∀ y, y ∈ is → m ≤ y) → m = k
  | [], _, _, e, _, _ => by cases e
  | i :: r, m, k, e, hm, hle => by
    have key : ∀ {r : List Int} {z : Int}, minI r = some z → z ∈ r ∧ ∀ y, y ∈ r → z ≤ y := by
      intro r
      induction r with
      | nil => intro z e; cases e
      | cons a r ih =>
        intro z e
        unfold minI at e
        split at e
        · rename_i q
          cases e
          cases r with
          | nil => exact ⟨List.mem_cons_self, fun y hy => by simp at hy; omega⟩
          | cons b r =>
            unfold minI at q
            split at q <;> cases q
        · rename_i u q
          cases e
          obtain ⟨h1, h2⟩ := ih q
          by_cases c : u < a
          · rw [if_pos c]
            exact ⟨List.mem_cons_of_mem _ h1, fun y hy => by
              rcases List.mem_cons.mp hy with rfl | hy
              · omega
              · exact h2 y hy⟩
          · rw [if_neg c]
            exact ⟨List.mem_cons_self, fun y hy => by
              rcases List.mem_cons.mp hy with rfl | hy
              · omega
              · have := h2 y hy; omega⟩
    obtain ⟨h1, h2⟩ := key e
    have a := hle k h1
    have b := h2 m hm
    omega
theorem maxI_pos {is : List Int} {k : Int} (e : maxI is = some k) : 0 < is.length := by
  cases is with
  | nil => cases e
  | cons _ _ => exact Nat.succ_pos _
theorem minI_pos {is : List Int} {k : Int} (e : minI is = some k) : 0 < is.length := by
  cases is with
  | nil => cases e
  | cons _ _ => exact Nat.succ_pos _
/-! built-in functions -/
def biV : Bi → Value
  | .len => .builtin "len" | .int => .type "int" | .abs => .builtin "abs" | .min => .builtin "min" | .max => .builtin "max" | .sum => .builtin "sum"
  | .str => .type "str" | .list => .type "list" | .tuple => .type "tuple" | .sorted => .builtin "sorted"
theorem rvs1 {x : D} {vs : List V} (r : RVs X.K H ρ [x] vs) : ∃ v, vs = [v] ∧ RV X.K H ρ x v := by
  simp only [RVs] at r
  obtain ⟨v, r', rfl, h1, rfl⟩ := r
  exact ⟨v, rfl, h1⟩
theorem rvs2 {x y : D} {vs : List V} (r : RVs X.K H ρ [x, y] vs) : ∃ v w, vs = [v, w] ∧ RV X.K H ρ x v ∧ RV X.K H ρ y w := by
  simp only [RVs] at r
  obtain ⟨v, r', rfl, h1, w, r'', rfl, h2, rfl⟩ := r
  exact ⟨v, w, rfl, h1, h2⟩
theorem biE_ok (b : Bi) (hc : X.calm = true) (R : RS CA X.K H ρ M) {xs : List D} {vs : List V} {Q : VK} (r : RVs X.K H ρ xs vs) (p : Post CA X.K W σ H ρ (biE b M xs) (kV' X.K Q)) : TMC X (biV b) vs H Q := by
  unfold biE at p
  split at p
  · obtain ⟨v, rfl, h⟩ := rvs1 r
    have := rv_str h; subst v
    obtain ⟨c, p⟩ := p.if_
    exact tm_call call_len ⟨_, _, rfl, ⟨c, rfl⟩, p.here R _ of_int⟩
  · obtain ⟨v, rfl, h⟩ := rvs1 r
    split at p
    · rename_i q0
      obtain ⟨a, ws, rfl, e2, rr⟩ := rv_seq R h q0
      have p := p.here R _ of_int
      rw [← RVs.length rr] at p
      refine tm_call call_len ⟨_, _, rfl, ?_, p⟩
      rcases e2 with e2 | e2
      · exact .inl ⟨ws, e2, rfl⟩
      · exact .inr ⟨ws, e2, rfl⟩
    · exact p.elim
  · obtain ⟨v, rfl, h⟩ := rvs1 r
    have := rv_int h; subst v
    exact tm_call call_int1 (.inl ⟨_, rfl, p.here R _ of_int⟩)
  · obtain ⟨v, rfl, h⟩ := rvs1 r
    have := rv_bl h; subst v
    exact tm_call call_int1 (.inr ⟨_, rfl, p.here R _ of_int⟩)
  · obtain ⟨v, rfl, h⟩ := rvs1 r
    have := rv_str h; subst v
    split at p
    · rename_i n q0
      obtain ⟨c, p⟩ := p.if_
      exact tm_call call_int_str ⟨_, n, rfl, q0, c, p.here R _ of_int⟩
    · exact p.elim
  · obtain ⟨v, rfl, h⟩ := rvs1 r
    have := rv_int h; subst v
    exact tm_call call_abs ⟨_, rfl, p.here R _ of_int⟩
  · obtain ⟨v, w, rfl, h, h'⟩ := rvs2 r
    have := rv_int h; have := rv_int h'; subst v w
    exact tm_call (call_min2 hc) ⟨_, _, rfl, p.here R _ of_int⟩
  · obtain ⟨v, w, rfl, h, h'⟩ := rvs2 r
    have := rv_int h; have := rv_int h'; subst v w
    exact tm_call (call_max2 hc) ⟨_, _, rfl, p.here R _ of_int⟩
  · obtain ⟨v, rfl, h⟩ := rvs1 r
    split at p
    · rename_i is q0
      obtain ⟨xs, q1, q2⟩ := Option.bind_eq_some_iff.mp q0
      obtain ⟨a, ws, rfl, _, e2, rr⟩ := rv_lst R h q1
      rw [intsOf_eq q2] at rr
      rw [RVs.ints rr] at e2
      obtain ⟨d, e3, p⟩ := p.ofO
      cases q3 : maxI is with
      | none => rw [q3] at e3; cases e3
      | some k =>
        rw [q3] at e3
        cases e3
        refine tm_call (cr_max hc) ⟨a, is, rfl, SqL.of e2, maxI_pos q3, fun m hm hle => ?_⟩
        rw [maxI_is q3 hm hle]
        exact p.here R _ of_int
    · exact p.elim
  · obtain ⟨v, rfl, h⟩ := rvs1 r
    split at p
    · rename_i is q0
      obtain ⟨xs, q1, q2⟩ := Option.bind_eq_some_iff.mp q0
      obtain ⟨a, ws, rfl, _, e2, rr⟩ := rv_lst R h q1
      rw [intsOf_eq q2] at rr
      rw [RVs.ints rr] at e2
      obtain ⟨d, e3, p⟩ := p.ofO
      cases q3 : minI is with
      | none => rw [q3] at e3; cases e3
      | some k =>
        rw [q3] at e3
        cases e3
        refine tm_call (cr_min hc) ⟨a, is, rfl, SqL.of e2, minI_pos q3, fun m hm hle => ?_⟩
        rw [minI_is q3 hm hle]
        exact p.here R _ of_int
    · exact p.elim
  · obtain ⟨v, rfl, h⟩ := rvs1 r
    split at p
    · rename_i is q0
      obtain ⟨xs, q1, q2⟩ := Option.bind_eq_some_iff.mp q0
      obtain ⟨a, ws, rfl, _, e2, rr⟩ := rv_lst R h q1
      rw [intsOf_eq q2] at rr
      rw [RVs.ints rr] at e2
      exact tm_call (cr_sum hc) ⟨a, is, rfl, SqL.of e2, p.here R _ of_int⟩
    · exact p.elim
  · obtain ⟨v, rfl, h⟩ := rvs1 r
    have := rv_int h; subst v
    obtain ⟨c, p⟩ := p.if_
    exact tm_call call_str_int ⟨_, rfl, Nat.lt_trans (PySem.Flt.log2_lt_of (k := 64) (by decide) (by omega)) (by decide), p.here R _ of_str⟩
  · obtain ⟨v, rfl, h⟩ := rvs1 r
    split at p
    · rename_i q0
      obtain ⟨a, ws, rfl, _, e2, rr⟩ := rv_lst R h (lstAt_of q0)
      exact tm_call call_list_of ⟨a, ws, rfl, .inl (SqL.of e2), fun q hq => p.mk R ⟨_, rfl, rr⟩ q hq⟩
    · rename_i kvs q0
      obtain ⟨a, u, rfl, _, e2, ws, rfl, ek, rr⟩ := rv_obj R h q0
      refine tm_call (call_list_dK hc) ⟨a, ws, rfl, e2, fun q hq => p.mk R ⟨_, rfl, ?_⟩ q hq⟩
      have e3 : (kvs.map fun kv => keyD kv.1) = (kvs.map (·.1)).map keyD := by rw [List.map_map]; rfl
      have e4 : (ws.map fun kv => L2.kV kv.1) = (ws.map (·.1)).map L2.kV := by rw [List.map_map]; rfl
      rw [e3, e4, ek]
      have key : ∀ l : List Key, RVs X.K H ρ (l.map keyD) (l.map L2.kV) := by
        intro l
        induction l with
        | nil => exact RVs.nil
        | cons k l ih =>
          refine RVs.cons ?_ ih
          cases k with
          | inl i => exact of_int
          | inr s => exact of_str
      exact key _
    · exact p.elim
  · obtain ⟨v, rfl, h⟩ := rvs1 r
    obtain ⟨a, ws, rfl, e2, rr⟩ := rv_tup h
    exact tm_call call_list_of ⟨a, ws, rfl, .inr (SqT.of e2), fun q hq => p.mk R ⟨_, rfl, rr⟩ q hq⟩
  · obtain ⟨v, rfl, h⟩ := rvs1 r
    split at p
    · rename_i q0
      obtain ⟨a, ws, rfl, _, e2, rr⟩ := rv_lst R h q0
      exact tm_call call_tuple_of ⟨a, ws, rfl, .inl ⟨SqL.of e2, fun q hq => p.tup R rr q hq⟩⟩
    · exact p.elim
  · obtain ⟨v, rfl, h⟩ := rvs1 r
    split at p
    · rename_i q0
      obtain ⟨a, ws, rfl, _, e2, rr⟩ := rv_lst R h q0
      split at p
      · rename_i is q1
        rw [intsOf_eq q1] at rr
        rw [RVs.ints rr] at e2
        refine tm_call cr_sortedI ⟨a, is, rfl, SqL.of e2, fun ns' q hp hs hq => ?_⟩
        rw [sortI_uniq hp hs]
        exact p.mk R ⟨_, rfl, RVs.of_ints⟩ q hq
      · split at p
        · rename_i ps q1
          rw [pairsOf_eq q1] at rr
          obtain ⟨k1, k2⟩ := pairs_rv rr
          refine tm_call cr_sortedPO ⟨a, ws, keyP H, rfl, SqL.of e2, k1, fun ys q hs hst hq => ?_⟩
          have hp : (ys.map (keyP H)).Perm ps := by
            rw [← k2]
            exact hst.perm.map _
          have hy : ∀ x ∈ ys, ∃ t, x = V.ref t ∧ H t = some (.tup [.int (keyP H x).1, .int (keyP H x).2]) := fun x hx => k1 x (hst.perm.mem_iff.mp hx)
          have ss : (ys.map (keyP H)).Pairwise LeP := by
            refine List.pairwise_map.mpr (List.Pairwise.imp ?_ (show ys.Pairwise (fun x y => ltP (keyP H) y x = false) from hs))
            intro x y hxy
            have := SrtO.lexB_no.mp hxy
            unfold LeP
            omega
          have e5 := sortP_uniq hp ss
          refine p.mk R ⟨_, rfl, ?_⟩ q hq
          rw [← e5]
          exact rv_pairs hy
        · exact p.elim
    · exact p.elim
  · exact p.elim
end
end Dv
end

section
set_option Elab.async false
set_option autoImplicit false
set_option linter.all false
set_option maxRecDepth 100000
set_option maxHeartbeats 2000000
/-! DvH: built-in methods, isinstance, o[i] = v, what is walked. -/
namespace Dv
open PySem L2
def bmT : Bm → String
  | .append => "list" | .extend => "list" | .pop => "list" | .index => "list" | .split => "str" | .join => "str" | .startswith => "str" | .get => "dict"
def bmN : Bm → Str
  | .append => "append" | .extend => "extend" | .pop => "pop" | .index => "index" | .split => "split" | .join => "join" | .startswith => "startswith" | .get => "get"
def bmI : Bm → String
  | .append => "list.append" | .extend => "list.extend" | .pop => "list.pop" | .index => "list.index" | .split => "str.split" | .join => "str.join" | .startswith => "str.startswith" | .get => "dict.get"
section
variable {CA : Nat → Addr} {H : Hp} {ρ : List Addr} {M : Store} {X : Cx} {W : WX} {σ : L2.St}
theorem rvs0 {vs : List V} (r : RVs X.K H ρ [] vs) : vs = [] := by simpa only [RVs] using r
theorem bmTy_ok (m : Bm) (R : RS CA X.K H ρ M) {x : D} {v : V} (h : RV X.K H ρ x v) (e : bmTy m M x = true) : tyV X.K (bmT m) v H := by
  have lst : ∀ {n : Nat} {v : V}, RV X.K H ρ (.loc n) v → (lstAt M n).isSome = true → tyV X.K "list" v H := fun {n v} h e => by
    obtain ⟨xs, q⟩ := Option.isSome_iff_exists.mp e
    obtain ⟨a, ws, rfl, _, e2, _⟩ := rv_lst R h q
    exact .inl ⟨rfl, ws, SqL.of e2⟩
  cases m with
  | append => cases x <;> first | exact lst h e | cases e
  | extend => cases x <;> first | exact lst h e | cases e
  | pop => cases x <;> first | exact lst h e | cases e
  | index => cases x <;> first | exact lst h e | cases e
  | split => cases x <;> first | (rw [rv_str h]; rfl) | cases e
  | join => cases x <;> first | (rw [rv_str h]; rfl) | cases e
  | startswith => cases x <;> first | (rw [rv_str h]; rfl) | cases e
  | get =>
    cases x with
    | loc n =>
      simp only [bmTy] at e
      split at e
      · rename_i kvs q
        obtain ⟨a, u, rfl, _, e2, ws, rfl, _⟩ := rv_obj R h q
        exact .inr (.inr (.inl ⟨rfl, .inl ⟨ws, e2⟩⟩))
      · cases e
    | _ => cases e
theorem seqIx {n : Nat} {i : Int} {k : Nat} (h : ixN n i = some k) : seqIndex? i n = some k := (ixN_seq h).1
theorem find_ix {p : D → Bool} : ∀ {ys : List D} {j : Nat}, findD p ys = some j → ∃ y, ys[j]? = some y ∧ p y = true ∧ ∀ m z, m < j → ys[m]? = some z → p z = false
  | [], j, e => by cases e
  | y :: r, j, e => by
    unfold findD at e
    split at e
    · rename_i c
      cases e
      exact ⟨y, rfl, c, fun m z h => absurd h (Nat.not_lt_zero _)⟩
    · rename_i c
      cases q : findD p r with
      | none => rw [q] at e; cases e
      | some k =>
        rw [q] at e
        have e' : k + 1 = j := Option.some.inj e
        subst e'
        obtain ⟨z, h1, h2, h3⟩ := find_ix q
        refine ⟨z, by simpa using h1, h2, fun m u hm hu => ?_⟩
        cases m with
        | zero =>
          simp at hu
          subst hu
          cases t : p y with
          | true => exact absurd t c
          | false => rfl
        | succ m => exact h3 m u (by omega) (by simpa using hu)
theorem rvs_getV {ds : List D} {vs : List V} {j : Nat} {v : V} (r : RVs X.K H ρ ds vs) (e : vs[j]? = some v) : ∃ d, ds[j]? = some d ∧ RV X.K H ρ d v := by
  have hl := RVs.length r
  have hj : j < ds.length := by
    rw [← hl]
    exact (List.getElem?_eq_some_iff.mp e).1
  obtain ⟨w, e1, e2⟩ := RVs.get r (List.getElem?_eq_getElem hj)
  rw [e] at e1
  cases e1
  exact ⟨_, List.getElem?_eq_getElem hj, e2⟩
theorem bmE_ok (m : Bm) (hu : X.A.units + 1 < cLine) (R : RS CA X.K H ρ M) {x : D} {v : V} {xs : List D} {vs : List V} {Q : VK} (h : RV X.K H ρ x v) (r : RVs X.K H ρ xs vs) (p : Post CA X.K W σ H ρ (bmE m M x xs) (kV' X.K Q)) : TMM X (bmI m) v vs H Q := by
  unfold bmE at p
  split at p
  · rename_i n y
    obtain ⟨w, rfl, h'⟩ := rvs1 r
    split at p
    · rename_i zs q0
      obtain ⟨a, ws, rfl, ea, e2, rr⟩ := rv_lst R h (lstAt_of q0)
      obtain ⟨c, p⟩ := p.if_
      refine tm_mt mt_append ⟨a, ws, w, rfl, rfl, e2, by rw [RVs.length rr]; exact c, ?_⟩
      exact p _ _ (St8.write (List.mem_of_getElem? ea)) (R.write ea ⟨_, rfl, RVs.app rr (RVs.cons h' RVs.nil)⟩) _ of_non
    · exact p.elim
  · rename_i n k
    obtain ⟨w, rfl, h'⟩ := rvs1 r
    split at p
    · rename_i zs us q0 q1
      obtain ⟨a, ws, rfl, ea, e2, rr⟩ := rv_lst R h (lstAt_of q0)
      obtain ⟨b, ws', rfl, eb, e2', rr'⟩ := rv_lst R h' (lstAt_of q1)
      obtain ⟨c, p⟩ := p.if_
      refine tm_mt mt_extend ⟨a, b, ws, ws', rfl, rfl, e2, e2', by rw [RVs.length rr, RVs.length rr']; exact c, ?_⟩
      exact p _ _ (St8.write (List.mem_of_getElem? ea)) (R.write ea ⟨_, rfl, RVs.app rr rr'⟩) _ of_non
    · exact p.elim
  · rename_i n
    have := rvs0 r
    subst this
    split at p
    · rename_i zs q0
      obtain ⟨a, ws, rfl, ea, e2, rr⟩ := rv_lst R h (lstAt_of q0)
      split at p
      · rename_i d q1
        obtain ⟨u, e3, r3⟩ := RVs.get rr q1
        have hl := RVs.length rr
        refine tm_mt mt_pop ⟨a, ws, u, rfl, rfl, e2, by rw [hl]; exact e3, ?_⟩
        have rd : RVs X.K H ρ zs.dropLast ws.dropLast := by
          rw [List.dropLast_eq_take, List.dropLast_eq_take, hl]
          exact RVs.take _ rr
        have st := St8.write (H := H) (o := .lst ws.dropLast) (List.mem_of_getElem? ea)
        exact p _ _ st (R.write ea ⟨_, rfl, rd⟩) _ (RV.mono R st _ _ r3)
      · exact p.elim
    · exact p.elim
  · rename_i n i
    obtain ⟨w, rfl, h'⟩ := rvs1 r
    have := rv_int h'; subst w
    split at p
    · rename_i zs q0
      obtain ⟨a, ws, rfl, ea, e2, rr⟩ := rv_lst R h (lstAt_of q0)
      split at p
      · rename_i k q1
        split at p
        · rename_i d q2
          obtain ⟨u, e3, r3⟩ := RVs.get rr q2
          have hl := RVs.length rr
          have hb := ixN_seq q1
          have st := St8.write (H := H) (o := .lst (ws.eraseIdx k)) (List.mem_of_getElem? ea)
          have rd : ∀ {zs : List D} {ws : List V} (k : Nat), RVs X.K H ρ zs ws → RVs X.K H ρ (zs.eraseIdx k) (ws.eraseIdx k) := fun {zs ws} k rr => by
            rw [List.eraseIdx_eq_take_drop_succ, List.eraseIdx_eq_take_drop_succ]
            exact RVs.app (RVs.take _ rr) (RVs.drop _ rr)
          intro pins s σ v us I rx rv
          have hz : zs.length < 2 ^ 63 := by
            obtain ⟨z1, _⟩ := I.hok a _ e2
            have := line63
            omega
          exact tm_mt mt_popAt ⟨a, ws, i, k, u, rfl, rfl, e2, by omega, by omega, by rw [hl]; exact hb.1, e3, p _ _ st (R.write ea ⟨_, rfl, rd k rr⟩) _ (RV.mono R st _ _ r3)⟩ pins s σ v us I rx rv
        · exact p.elim
      · exact p.elim
    · exact p.elim
  · rename_i n y
    obtain ⟨w, rfl, h'⟩ := rvs1 r
    split at p
    · rename_i zs q0
      obtain ⟨a, ws, rfl, ea, e2, rr⟩ := rv_lst R h (lstAt_of q0)
      obtain ⟨c, p⟩ := p.if_
      obtain ⟨c1, c2⟩ := Bool.and_eq_true_iff.mp c
      split at p
      · rename_i j q1
        obtain ⟨z, h1, h2, h3⟩ := find_ix q1
        obtain ⟨u, e3, r3⟩ := RVs.get rr h1
        have sz : ∀ {j : Nat} {z : D}, zs[j]? = some z → z.sc = true := fun {j z} e => List.all_eq_true.mp c2 z (List.mem_of_getElem? e)
        refine tm_mt mt_index ⟨a, ws, w, j, u, rfl, rfl, SqL.of e2, sc_v h' c1, flat_all rr c2, e3, ?_, fun m z' hm ez => ?_, p.here R _ of_int⟩
        · rw [← eqS_V r3 h' (sz h1) c1]; exact h2
        · obtain ⟨d, ed, rd⟩ := rvs_getV rr ez
          rw [← eqS_V rd h' (sz ed) c1]
          exact h3 m d hm ed
      · exact p.elim
    · exact p.elim
  · obtain ⟨w, rfl, h'⟩ := rvs1 r
    have := rv_str h; have := rv_str h'; subst v w
    obtain ⟨c, p⟩ := p.if_
    refine tm_mt mt_split ⟨_, _, rfl, rfl, by simpa using c.1, c.2, fun q hq => p.mk R ⟨_, rfl, RVs.of_strs⟩ q hq⟩
  · obtain ⟨w, rfl, h'⟩ := rvs1 r
    have := rv_str h; subst v
    split at p
    · rename_i ys q0
      obtain ⟨xs, q1, q2⟩ := Option.bind_eq_some_iff.mp q0
      obtain ⟨a, ws, rfl, ea, e2, rr⟩ := rv_lst R h' q1
      obtain ⟨c, p⟩ := p.if_
      rw [strsOf_eq q2] at rr
      rw [RVs.strs rr] at e2
      exact tm_mt mt_join ⟨_, a, ys, rfl, rfl, .inl (SqL.of e2), c, p.here R _ of_str⟩
    · exact p.elim
  · obtain ⟨w, rfl, h'⟩ := rvs1 r
    have := rv_str h; have := rv_str h'; subst v w
    exact tm_mt mt_startswith ⟨_, _, rfl, rfl, p.here R _ of_bl⟩
  · rename_i n y
    obtain ⟨w, rfl, h'⟩ := rvs1 r
    split at p
    · rename_i kvs q0
      obtain ⟨a, u, rfl, _, e2, ws, rfl, ek, rr⟩ := rv_obj R h q0
      split at p
      · rename_i k qk
        have ev := key_rv h' qk
        subst ev
        obtain ⟨i1, i2⟩ := find_map (X := X) kvs ws k ek rr
        have pe := p.here R
        intro pins s σ v us I rx rv
        obtain rfl : v = Value.ref a := rx
        obtain ⟨u1, rfl, ru⟩ := vals1 rv
        refine d_get1 hu I (DGet.k e2) ru fun w' s' I' rw' => ⟨_, H, I', rw', pe _ ?_⟩
        cases q : valK kvs k with
        | none => rw [i2 q]; exact of_non
        | some d =>
          obtain ⟨z, hz, rz⟩ := i1 d q
          rw [hz]
          exact rz
      · exact p.elim
    · exact p.elim
  · exact p.elim
/-- isinstance(x, T) -/
def tyN : Ty → String
  | .int => "int" | .bool => "bool" | .str => "str" | .list => "list" | .tuple => "tuple"
theorem kit_all (t : Ty) : ∀ (a : String) (b : Bool), kitB a (tyN t) = some b → ∀ K : PySem.W.Frag, PySem.W.kitOne K (.type a) (.type (tyN t)) = some b := fun a b h K => kit_ty h
theorem isiE_ok (t : Ty) (R : RS CA X.K H ρ M) {x : D} {v : V} {b : Bool} {Q : VK} (h : RV X.K H ρ x v) (e : isiE M x t = some b) (q : Q (.bl b) H) : TMC X (.builtin "isinstance") [v, .ty (tyN t)] H Q := by
  have go : ∀ (a : String), TyX X.K H v (.type a) → kitB a (tyN t) = some b → TMC X (.builtin "isinstance") [v, .ty (tyN t)] H Q := fun a ty k => tm_call call_isi ⟨v, .ty (tyN t), .type a, .type (tyN t), b, rfl, .ty _, ty, kit_ty k, q⟩
  cases x with
  | non =>
    rw [rv_non h] at go ⊢
    refine go "NoneType" (.base .non) ?_
    cases t <;> (cases e; decide +kernel)
  | bl c =>
    rw [rv_bl h] at go ⊢
    refine go "bool" (.base (.bl _)) ?_
    cases t <;> (cases e; decide +kernel)
  | int c =>
    rw [rv_int h] at go ⊢
    refine go "int" (.base (.int _)) ?_
    cases t <;> (cases e; decide +kernel)
  | str c =>
    rw [rv_str h] at go ⊢
    refine go "str" (.base (.str _)) ?_
    cases t <;> (cases e; decide +kernel)
  | tup ds =>
    obtain ⟨a, vs, ev, e2, _⟩ := rv_tup h
    rw [ev] at go ⊢
    refine go "tuple" (.base (.tup e2)) ?_
    cases t <;> (cases e; decide +kernel)
  | loc n =>
    have key : (lstAt M n).isSome = true → TyX X.K H v (.type "list") := fun z => by
      obtain ⟨ds, qd⟩ := Option.isSome_iff_exists.mp z
      obtain ⟨a, ws, rfl, _, e2, _⟩ := rv_lst R h qd
      exact .base (.lst e2)
    cases q0 : lstAt M n with
    | none => cases t <;> (simp [isiE, q0] at e)
    | some ds =>
      refine go "list" (key (by rw [q0]; rfl)) ?_
      cases t <;> (simp [isiE, q0] at e; subst e; decide +kernel)
  | rol xs => cases t <;> cases e
  | ktp xs => cases t <;> cases e
/-- o[i] = v -/
def TMY (X : Cx) (o i v : V) (H : Hp) (Q : Hp → Prop) : Prop := ∀ (pins : List (Addr × Obj)) (s : Shared) (σ : L2.St) (ov iv u : Value), Inv X pins σ H s → RelV o ov → RelV i iv → RelV v u → wpAny (model X.prog X.w) X.A (setItem ov iv u) (fun _ s' => ∃ H', Inv X pins σ H' s' ∧ Q H') X.xe s
theorem set_tm : PSet X (fun o i v H Q => TMY X o i v H Q) := fun pins s σ H o i v ov iv u Q I ro ri rv h => h pins s σ ov iv u I ro ri rv
theorem tm_set {t : TSet} {o i v : V} {Q : Hp → Prop} (h : PSet X t) (q : t o i v H Q) : TMY X o i v H Q := fun pins s σ ov iv u I ro ri rv => h pins s σ H o i v ov iv u Q I ro ri rv q
theorem put_map {κ : Type} [DecidableEq κ] (k : κ) {d : D} {z : V} (rz : RV X.K H ρ d z) : ∀ (kvs : List (κ × D)) (ws : List (κ × V)), ws.map (·.1) = kvs.map (·.1) → RVs X.K H ρ (kvs.map (·.2)) (ws.map (·.2)) →
    (ws.any fun kv => decide (kv.1 = k)) = (kvs.any fun kv => decide (kv.1 = k)) ∧ (ws.map (fun kv => if kv.1 = k then (kv.1, z) else kv)).map (·.1) = (kvs.map (fun kv => if kv.1 = k then (kv.1, d) else kv)).map (·.1) ∧
      RVs X.K H ρ ((kvs.map (fun kv => if kv.1 = k then (kv.1, d) else kv)).map (·.2)) ((ws.map (fun kv => if kv.1 = k then (kv.1, z) else kv)).map (·.2))
  | [], [], _, _ => ⟨rfl, rfl, RVs.nil⟩
  | [], _ :: _, e, _ => by cases e
  | _ :: _, [], e, _ => by cases e
  | (a, d') :: kvs, (b, v) :: ws, e, r => by
    simp only [List.map_cons, List.cons.injEq] at e
    obtain ⟨e1, e2⟩ := e
    subst e1
    simp only [List.map_cons, RVs] at r
    obtain ⟨v', r', er, h1, h2⟩ := r
    injection er with er1 er2
    subst er1 er2
    obtain ⟨i1, i2, i3⟩ := put_map k rz kvs ws e2 h2
    by_cases c : b = k
    · refine ⟨by rw [List.any_cons, List.any_cons, i1], ?_, ?_⟩
      · simp only [List.map_cons, if_pos c]
        exact congrArg _ i2
      · simp only [List.map_cons, if_pos c]
        exact RVs.cons rz i3
    · refine ⟨by rw [List.any_cons, List.any_cons, i1], ?_, ?_⟩
      · simp only [List.map_cons, if_neg c]
        exact congrArg _ i2
      · simp only [List.map_cons, if_neg c]
        exact RVs.cons h1 i3
theorem putK_map {κ : Type} [DecidableEq κ] (k : κ) {d : D} {z : V} (rz : RV X.K H ρ d z) {kvs : List (κ × D)} {ws : List (κ × V)} (e : ws.map (·.1) = kvs.map (·.1)) (r : RVs X.K H ρ (kvs.map (·.2)) (ws.map (·.2))) :
    (putK ws k z).map (·.1) = (putKD kvs k d).map (·.1) ∧ RVs X.K H ρ ((putKD kvs k d).map (·.2)) ((putK ws k z).map (·.2)) := by
  obtain ⟨i1, i2, i3⟩ := put_map k rz kvs ws e r
  unfold putK putKD
  rw [i1]
  by_cases c : (kvs.any fun kv => decide (kv.1 = k)) = true
  · rw [if_pos c, if_pos c]
    exact ⟨i2, i3⟩
  · rw [if_neg c, if_neg c]
    refine ⟨by rw [List.map_append, List.map_append, e]; rfl, ?_⟩
    rw [List.map_append, List.map_append]
    exact RVs.app r (RVs.cons rz RVs.nil)
theorem setE_ok (hu : X.A.units + 1 < cLine) (R : RS CA X.K H ρ M) {x i y : D} {v w z : V} {Q : Hp → Prop} (h : RV X.K H ρ x v) (hi : RV X.K H ρ i w) (hy : RV X.K H ρ y z)
    (p : Post CA X.K W σ H ρ (setE M x i y) fun _ M' H' ρ' => Q H') : TMY X v w z H Q := by
  unfold setE at p
  split at p
  · rename_i n
    split at p
    · rename_i xs q0
      obtain ⟨a, ws, rfl, ea, e2, rr⟩ := rv_lst R h (lstAt_of q0)
      split at p
      · rename_i k
        have := rv_int hi; subst w
        split at p
        · rename_i j q1
          refine tm_set set_list ⟨a, ws, k, j, rfl, rfl, e2, by rw [RVs.length rr]; exact q1, ?_⟩
          exact p _ _ (St8.write (List.mem_of_getElem? ea)) (R.write ea ⟨_, rfl, RVs.set j rr hy⟩)
        · exact p.elim
      · exact p.elim
    · rename_i kvs q0
      obtain ⟨a, u, rfl, ea, e2, ws, rfl, ek, rr⟩ := rv_obj R h q0
      split at p
      · rename_i k qk
        have ev := key_rv hi qk
        subst ev
        obtain ⟨c, p⟩ := p.if_
        have hl : ws.length = kvs.length := by simpa using congrArg List.length ek
        obtain ⟨j1, j2⟩ := putK_map (X := X) k hy ek rr
        refine tm_set (set_dict hu) ⟨a, _, rfl, DPut.k e2 (by rw [hl]; exact c), ?_⟩
        exact p _ _ (St8.write (List.mem_of_getElem? ea)) (R.write ea ⟨_, rfl, j1, j2⟩)
      · exact p.elim
    · rename_i kvs q0
      obtain ⟨a, u, rfl, ea, e2, ws, rfl, ek, rr⟩ := rv_obj R h q0
      split at p
      · rename_i ks
        split at p
        · rename_i k qk
          obtain ⟨t, vs, rfl, e4, r4⟩ := rv_tup hi
          have ev := keys_rv r4 qk
          subst ev
          obtain ⟨c, p⟩ := p.if_
          have hl : ws.length = kvs.length := by simpa using congrArg List.length ek
          obtain ⟨j1, j2⟩ := putK_map (X := X) k hy ek rr
          refine tm_set (set_dict hu) ⟨a, _, rfl, .inr ⟨ws, k, t, e2, rfl, e4, by rw [hl]; exact c, rfl⟩, ?_⟩
          exact p _ _ (St8.write (List.mem_of_getElem? ea)) (R.write ea ⟨_, rfl, j1, j2⟩)
        · exact p.elim
      · exact p.elim
    · exact p.elim
  · exact p.elim
end
end Dv
end

section
set_option Elab.async false
set_option autoImplicit false
set_option linter.all false
set_option maxRecDepth 100000
set_option maxHeartbeats 2000000
/-! DvI: a text's expression is an expression of the evaluator's; the context. -/
namespace Dv
open PySem L2
/-- names -/
structure Tb where
  isf : Nat → Bool
  cn : Nat → Str
  fn : Nat → Str
  gn : Nat → Str
  cm : Bool   -- no exception is held
  xi : Nat    -- the slot of the exception that is held
def biN : Bi → Str
  | .len => "len" | .int => "int" | .abs => "abs" | .min => "min" | .max => "max" | .sum => "sum" | .str => "str" | .list => "list" | .tuple => "tuple" | .sorted => "sorted"
def tyS : Ty → Str
  | .int => "int" | .bool => "bool" | .str => "str" | .list => "list" | .tuple => "tuple"
/-! ### side looks -/
def nst : Expr → Bool | .Starred _ _ => false | _ => true
def nsl : Expr → Bool | .Slice _ _ _ _ => false | _ => true
def nsup : Expr → Bool | .Call (.Name _ _) [] [] _ => false | _ => true
def nbl : Expr → Bool | .UnaryOp .Not _ _ => false | .BoolOp _ _ _ => false | .IfExp _ _ _ _ => false | .Compare _ _ _ _ => false | _ => true
def nset : Expr → Bool | .Set _ _ _ => false | _ => true
def ncmp : Expr → Bool | .ListComp _ _ _ _ => false | .SetComp _ _ _ _ => false | .DictComp _ _ _ _ _ => false | _ => true
theorem nst_ok {e : Expr} (h : nst e = true) (es : List Expr) (env : PySem.Env) : starEach (e :: es) env = (false, eval e env) :: starEach es env := by
  cases e <;> first | rfl | cases h
theorem nsl_ok {e : Expr} (h : nsl e = true) : PlainIx e := fun o i => by
  cases e <;> first | rfl | cases h
theorem nsup_ok {e : Expr} (h : nsup e = true) (f : Str) (env : PySem.Env) : attributeBase e f env (eval e env) = eval e env := by
  cases e with
  | Call g as ks p =>
    cases g <;> first | rfl | (cases as <;> first | rfl | (cases ks <;> first | rfl | cases h))
  | _ => rfl
theorem nset_ok {e : Expr} (h : nset e = true) (env : PySem.Env) (x : Value) : foldedSetIterable e env x = pure x := by
  cases e <;> first | rfl | cases h
theorem ncmp_ok {e : Expr} (h : ncmp e = true) (t : Option Expr) (l : Nat) (env : PySem.Env) : swapsWith e t l env = pure false := by
  cases e <;> first | rfl | cases h
theorem nbl_ok {e : Expr} (h : nbl e = true) (env : PySem.Env) (whole : PySem.Sem Value) : isTrue e env whole = (do let v ← whole; standAt e.pos; holding [v] (truthy v)) := by
  cases e with
  | UnaryOp op a p => cases op <;> first | rfl | cases h
  | _ => first | rfl | cases h
/-- no star in a row -/
def nsts (es : List Expr) : Bool := es.all nst
theorem plain_ok {es : List Expr} (h : nsts es = true) (pos : Pos) (env : PySem.Env) : (backTo pos (starEach es env)).any (·.1) = false := by
  induction es with
  | nil => rfl
  | cons e es ih =>
    obtain ⟨h1, h2⟩ := Bool.and_eq_true_iff.mp (show (nst e && nsts es) = true from h)
    rw [nst_ok h1]
    show (false || (backTo pos (starEach es env)).any (·.1)) = false
    rw [ih h2]
    rfl
theorem few_ok {es : List Expr} (h : nsts es = true) (hl : es.length < 20) (pos : Pos) (env : PySem.Env) : ((backTo pos (starEach es env)).all (fun x => !x.1) && (backToKw pos (keywordEach [] env)).all (fun x => x.1.isSome)
      && decide (es.length + ([] : List Keyword).length + (if ([] : List Keyword).isEmpty then 0 else 1) < 30)) = true := by
  have a : (backTo pos (starEach es env)).all (fun x => !x.1) = true := by
    clear hl
    induction es with
    | nil => rfl
    | cons e es ih =>
      obtain ⟨h1, h2⟩ := Bool.and_eq_true_iff.mp (show (nst e && nsts es) = true from h)
      rw [nst_ok h1]
      show (!false && (backTo pos (starEach es env)).all (fun x => !x.1)) = true
      rw [ih h2]
      rfl
  rw [a]
  show (true && true && decide (es.length + 0 + 0 < 30)) = true
  rw [decide_eq_true (by omega)]
  rfl
/-! ### names of a scope -/
def visB (sc : Scope) (x : Str) : Bool := match sc.names.lookup x with
  | some .local => true | some .cell => true | some .free => true | _ => false
def locB (sc : Scope) (x : Str) : Bool := match sc.names.lookup x with
  | some .local => true | _ => false
/-- a local, or (fc) a cell -/
def lclB (fc : Bool) (sc : Scope) (x : Str) : Bool := match sc.names.lookup x with
  | some .local => true
  | some .cell => fc
  | _ => false
theorem lclB_ok {fc : Bool} {sc : Scope} {x : Str} (h : lclB fc sc x = true) : sc.names.lookup x = some .local ∨ (sc.names.lookup x = some .cell ∧ fc = true) := by
  unfold lclB at h
  split at h
  · exact .inl (by assumption)
  · exact .inr ⟨by assumption, h⟩
  · cases h
def gloB (sc : Scope) (x : Str) : Bool := match sc.names.lookup x with
  | some .globalImplicit => true | _ => false
def dbgB (x : Str) : Bool := !(x == ("__debug__" : Str)) && !(x == ("__classdict__" : Str)) && !(x == ("__name__" : Str))
theorem visB_ok {sc : Scope} {x : Str} (h : visB sc x = true) : Vis sc x := by
  unfold visB at h
  split at h <;> first | (rename_i q; first | exact .inl q | exact .inr (.inl q) | exact .inr (.inr q)) | cases h
theorem locB_ok {sc : Scope} {x : Str} (h : locB sc x = true) : sc.names.lookup x = some .local := by
  unfold locB at h
  split at h
  · assumption
  · cases h
theorem gloB_ok {sc : Scope} {x : Str} (h : gloB sc x = true) : sc.names.lookup x = some .globalImplicit := by
  unfold gloB at h
  split at h
  · assumption
  · cases h
theorem dbgB_ok {x : Str} (h : dbgB x = true) : (x == ("__debug__" : Str)) = false ∧ (x == ("__classdict__" : Str)) = false ∧ x ≠ "__name__" := by
  unfold dbgB at h
  obtain ⟨h1, h2⟩ := Bool.and_eq_true_iff.mp h
  obtain ⟨h3, h4⟩ := Bool.and_eq_true_iff.mp h1
  exact ⟨by simpa using h3, by simpa using h4, by simpa using h2⟩

/-! ### the matcher -/
structure Mt where
  e : Expr → Bool
  a : List Expr → Bool
  bo : BoolOp → List Expr → Bool
  p : Option Expr → Bool
  i : Expr → Bool
  c : List Expr → Bool
def mtE (f : Expr → Bool) : Mt where
  e := f
  a := fun _ => false
  bo := fun _ vs => match vs with | [x] => f x | _ => false
  p := fun o => match o with | some x => f x && nsl x | none => false
  i := fun x => f x && nset x
  c := fun l => match l with | [x] => f x | _ => false
def mtB (op : BoolOp) (a : Expr → Bool) (b : BoolOp → List Expr → Bool) : Mt :=
  let g : List Expr → Bool := fun vs => match vs with | v :: w :: r => a v && b op (w :: r) | _ => false
  let f : Expr → Bool := fun x => match x with | .BoolOp o vs _ => decide (o = op) && g vs | _ => false
  { mtE f with bo := fun o vs => match vs with | [x] => f x | _ => decide (o = op) && g vs }
def ownP (N : List Str) (own : List Nat) : List (Str × Nat) := own.filterMap fun i => (N[i]?).map fun x => (x, i)
section
variable (B : Tb) (G : Gl) (N : List Str)
/-- a target of names -/
def tgM (fc : Bool) (sc : Scope) (tg : List Nat) (sole : Bool) (x : Expr) : Bool := match sole with
  | true => match tg, x with
    | [i], .Name y _ => decide (N[i]? = some y) && lclB fc sc y
    | _, _ => false
  | false => match x with
    | .Tuple es _ _ => decide (es.length = tg.length) && (es.zip tg).all fun q => match q.1 with
      | .Name y _ => decide (N[q.2]? = some y) && lclB fc sc y
      | _ => false
    | _ => false
def mm : E → Scope → Mt
  | .nil, _ => { mtE fun _ => false with a := fun es => es.isEmpty, p := fun o => o.isNone, c := fun l => l.isEmpty }
  | .cons h t, sc => { mtE fun _ => false with a := fun es => match es with | e :: r => nst e && nsl e && (mm h sc).e e && (mm t sc).a r | _ => false }
  | .rng es, sc => { mtE fun _ => false with i := fun x => match x with | .Call (.Name y _) as [] _ => decide (y = "range") && gloB sc y && decide (as.length = 1 ∨ as.length = 2) && nsts as && (mm es sc).a as | _ => false }
  | .var i, sc => mtE fun x => match x with | .Name y _ => decide (N[i]? = some y) && visB sc y && dbgB y | _ => false
  | .non, _ => mtE fun x => match x with | .Constant .none _ _ => true | _ => false
  | .bl b, _ => mtE fun x => match x with | .Constant (.bool c) _ _ => decide (b = c) | _ => false
  | .int i, _ => mtE fun x => match x with | .Constant (.int j) _ _ => decide (i = j) | _ => false
  | .str s, _ => mtE fun x => match x with | .Constant (.str t) _ _ => decide (s = t) | _ => false
  | .glb k, sc => mtE fun x => match x with | .Name y _ => decide (y = B.gn k) && gloB sc y && dbgB y | _ => false
  | .bin o a b, sc => mtE fun x => match x with | .BinOp l op r _ => decide (op = opP o) && (mm a sc).e l && (mm b sc).e r | _ => false
  | .neg a, sc => mtE fun x => match x with | .UnaryOp .USub l _ => (mm a sc).e l | _ => false
  | .cmp o a b, sc => mtE fun x => match x with | .Compare l [op] [r] _ => decide (op = coP o) && (mm a sc).e l && (mm b sc).e r && !behindInMarks op r | _ => false
  | .chn o p a b c, sc => mtE fun x => match x with | .Compare l [op, pp] [r, z] _ => decide (op = coP o) && decide (pp = coP p) && (mm a sc).e l && (mm b sc).e r && (mm c sc).e z && !behindInMarks pp z | _ => false
  | .ch3 o p q a b c d, sc => mtE fun x => match x with | .Compare l [op, pp, qq] [r, z, w] _ => decide (op = coP o) && decide (pp = coP p) && decide (qq = coP q) && (mm a sc).e l && (mm b sc).e r && (mm c sc).e z && (mm d sc).e w && !behindInMarks qq w | _ => false
  | .and a b, sc => mtB .And (mm a sc).e (mm b sc).bo
  | .or a b, sc => mtB .Or (mm a sc).e (mm b sc).bo
  | .not a, sc => mtE fun x => match x with | .UnaryOp .Not l _ => (mm a sc).e l | _ => false
  | .ife c a b, sc => mtE fun x => match x with | .IfExp t l r _ => (mm c sc).e t && (mm a sc).e l && (mm b sc).e r | _ => false
  | .tup es, sc => mtE fun x => match x with | .Tuple l _ _ => (mm es sc).a l && nsts l | _ => false
  | .lst es, sc => mtE fun x => match x with | .List l _ => (mm es sc).a l && nsts l | _ => false
  | .dnl _, _ => mtE fun x => match x with | .Dict [] [] _ => true | _ => false
  | .dsp _, _ => mtE fun _ => false
  | .idx a i, sc => mtE fun x => match x with | .Subscript l r _ => (mm a sc).e l && (mm i sc).e r && nsl r | _ => false
  | .slc a lo hi, sc => mtE fun x => match x with | .Subscript l (.Slice p q none _) _ => (mm a sc).e l && (mm lo sc).p p && (mm hi sc).p q | _ => false
  | .rev _, _ => mtE fun _ => false
  | .fld a f, sc => mtE fun x => match x with | .Attribute l g _ => decide (f = g) && (mm a sc).e l && nsup l | _ => false
  | .cal f es, sc => mtE fun x => match x with | .Call (.Name y _) as [] _ => B.cm && B.isf f && decide (y = B.fn f) && gloB sc y && dbgB y && nsts as && (mm es sc).a as | _ => false
  | .mak c es, sc => mtE fun x => match x with | .Call (.Name y _) as [] _ => B.cm && (G.ini c).isSome && decide (y = B.cn c) && gloB sc y && dbgB y && nsts as && (mm es sc).a as | _ => false
  | .mth o m es, sc => mtE fun x => match x with | .Call (.Attribute l g p) as [] q => B.cm && decide (g = G.mn m) && (mm o sc).e l && nsup l && decide (p.endLine = q.line) && nsts as && decide (as.length < 20) && (mm es sc).a as | _ => false
  | .bi b es, sc => mtE fun x => match x with | .Call (.Name y _) as [] _ => B.cm && decide (y = biN b) && gloB sc y && !as.isEmpty && nsts as && (mm es sc).a as | _ => false
  | .bm m o es, sc => mtE fun x => match x with | .Call (.Attribute l g p) as [] q => decide (g = bmN m) && (mm o sc).e l && nsup l && decide (p.endLine = q.line) && nsts as && decide (as.length < 20) && (mm es sc).a as && (match m with | .pop => true | _ => !as.isEmpty) | _ => false
  | .isi a t, sc => mtE fun x => match x with | .Call (.Name y _) [l, .Name z _] [] _ => decide (y = "isinstance") && gloB sc y && decide (z = tyS t) && gloB sc z && nst l && (mm a sc).e l | _ => false
  | .isx c, sc => mtE fun x => match x with | .Call (.Name y _) [.Name n _, .Name z _] [] _ => decide (y = "isinstance") && gloB sc y && decide (N[B.xi]? = some n) && visB sc n && dbgB n && decide (z = B.cn c) && gloB sc z && dbgB z && G.isc c | _ => false
  | .xfd f, sc => mtE fun x => match x with | .Attribute (.Name n _) g _ => decide (f = g) && decide (N[B.xi]? = some n) && visB sc n && dbgB n | _ => false
  | .cmp1 elt tg sole own it cond, sc => mtE fun x => match x with
    | .ListComp l [⟨t, src, ifs, k⟩] s2 _ => B.cm && decide (k = 0) && (mm it sc).i src && nset src && blkC N sc s2 (ownP N own) && decide ((ownP N own).map (·.2) = own) && tg.all (fun i => own.contains i) && tgM N false (relS s2 sc) tg sole t && (mm cond (relS s2 sc)).c ifs && (mm elt (relS s2 sc)).e l
    | _ => false
end
end Dv
end

section
set_option Elab.async false
set_option autoImplicit false
set_option linter.all false
set_option maxRecDepth 100000
set_option maxHeartbeats 2000000
/-! DvJ: calls, methods, new objects; the context of a body. -/
namespace Dv
open PySem L2
/-! ### what a def of the evaluator's promises -/
def PostC (CA : Nat → Addr) (K : PySem.W.Frag) (H : Hp) (ρ : List Addr) (o : Out D) (Q : VK) (E : XK) : Prop := match o with
  | .ok d M => ∀ v H' ρ', St8 H ρ H' ρ' → RS CA K H' ρ' M → RV K H' ρ' d v → Q v H'
  | .exc c fs M => ∀ dd H' ρ', St8 H ρ H' ρ' → RS CA K H' ρ' M → XR K H' fs dd → E (.ref (CA c)) dd H'
  | .bad => False
def spC (CA : Nat → Addr) (K : PySem.W.Frag) (cl : Cl) (f : Nat) : Sp := fun vs H Q E => ∃ ds M ρ, RS CA K H ρ M ∧ RVs K H ρ ds vs ∧ PostC CA K H ρ (cl f ds M) Q E
theorem Post.toC {CA : Nat → Addr} {K : PySem.W.Frag} {W : WX} {σ : L2.St} {H : Hp} {ρ : List Addr} {o : Out D} {Q : VK} (p : Post CA K W σ H ρ o (kV' K Q)) : PostC CA K H ρ o Q (WE W σ) := by
  cases o with
  | ok d M => exact fun v H' ρ' s R r => p H' ρ' s R v r
  | exc c fs M => exact p
  | bad => exact p
/-- a def that stands at a -/
def FnI (CA : Nat → Addr) (X : Cx) (cl : Cl) (g : Nat) (a : Addr) : Prop := ∃ fd ps k, FnOk X.prog X.w X.K X.mg X.base (L2.CX X.prog X.w) k a fd ps (spC CA X.K cl g) ∧ Room (k + 1) X.A ∧ Binds X.K fd ps []
structure Cc (G : Gl) (cl : Cl) (cu : Option (Nat × List (Str × D))) (B : Tb) (CA : Ca) (X : Cx) (W : WX) : Prop where
  nd : X.N.Nodup
  tk : Takes X W
  un : X.A.units + 200 < cLine
  calm : B.cm = true → X.calm = true
  sgc : B.cm = true → ∀ σ H, CA.sg σ H
  cuc : B.cm = true → cu = none
  kind : X.env.scope.kind = .function
  bln : ∀ b, X.mg (biN b) = none
  tyn : ∀ t, X.mg (tyS t) = none
  rgn : X.mg "range" = none
  isn : X.mg "isinstance" = none
  con : ∀ k d, G.con k = some d → ∃ v u, X.mg (B.gn k) = some u ∧ RelV v u ∧ ∀ H ρ, RV X.K H ρ d v
  fns : B.cm = true → ∀ f, B.isf f = true → ∃ a, X.mg (B.fn f) = some (.ref a) ∧ PySem.W.keepIn X.K (.ref a) = true ∧ FnI CA X cl f a
  mth : B.cm = true → ∀ c m g, G.mid c m = some g → ∃ a, Cls X.K (CA c) ∧ Meth X.K (CA c) (G.mn m) a ∧ FnI CA X cl g a
  mak : B.cm = true → ∀ c g, G.ini c = some g → ∃ a, X.mg (B.cn c) = some (.ref (CA c)) ∧ Mk X.K (CA c) a ∧ FnI CA X cl g a
  fld : ∀ c f, G.fok c f = true → Cls X.K (CA c) ∧ NoAttr X.K (CA c) f
  xcl : ∀ c, G.isc c = true → X.mg (B.cn c) = some (.ref (CA c)) ∧ ExcC X.K (CA c)
  xsb : ∀ k c, G.isc k = true → G.isc c = true → PySem.W.kitOne X.K (.ref (CA k)) (.ref (CA c)) = some (G.sub k c) ∧ PySem.W.exmOne X.K (.ref (CA k)) (.ref (CA c)) = some (G.sub k c)
  xfl : ∀ k f, G.xok k f = true → XfC X.K (CA k) ∧ PySem.W.findIn X.K (.ref (CA k)) f = some none
  xc : ∀ k fs, cu = some (k, fs) → G.isc k = true ∧ ∃ a oe d pn X0, X = Cx.suite X0 a ((a, oe) :: pn) ∧ Zc (.ref (CA k)) d oe ∧ (∃ vs, oe.data = .fields vs) ∧ ∀ σ H, CA.sg σ H → σ[B.xi]? = some (some (.ref a)) ∧ XR X.K H fs d
/-! ### rules: calls with any number of arguments, what is raised wished for at the slots -/
section
variable {X : Cx} {CX : CXT} {k : Nat} {f C : Addr} {fd : FuncData} {ps : List Str} {sp : Sp} {E : L2.St → XK} {x m : Str} {p pos apos : Pos} {o : Expr} {es : List Expr} {ta : TE} {t : TA}
theorem pe_callS0 (F : FnOk X.prog X.w X.K X.mg X.base CX k f fd ps sp) (hr : Room k X.A) (hg : L2.Gl X x) (hm : X.mg x = some (.ref f)) (hk : PySem.W.keepIn X.K (.ref f) = true) (hb : Binds X.K fd ps []) (hx : ∀ σ, PassesAt CX X σ (E σ))
    (hdb : (x == ("__debug__" : Str)) = false) : PE X (.Call (.Name x p) [] [] pos) (fun σ H Q => sp [] H Q (E σ)) := by
  refine ⟨fun pins s σ H Q I h => ?_⟩
  refine PySem.wpAny_Call_Name_kw (ld_glob I hg hm ?_ hdb)
  exact PySem.W.callWith_K0 I.kIn hk (run_fnS (us := []) F hr hb (hx σ) I .nil h)
theorem meth_eq {env : PySem.Env} (hs : nsup o = true) (hsts : nsts es = true) (hl : es.length < 20) (hline : apos.endLine = pos.line) : eval (.Call (.Attribute o m apos) es [] pos) env = (do
      let ov ← eval o env
      standAt apos.atName
      let (f, first) ← holding [ov] (getMethod ov m (plainOf o env))
      callWith pos f first (backTo pos (starEach es env)) (backToKw pos (keywordEach [] env))) := by
  show (attributeBase o m env (eval o env) >>= fun ov => standAt apos.atName >>= fun _ => methodCall o m apos pos env ov (es.length + ([] : List Keyword).length) (backTo pos (starEach es env)) (backToKw pos (keywordEach [] env))) = _
  rw [nsup_ok hs]
  congr 1
  funext ov
  congr 1
  funext _
  refine mcall_line ?_ (by simp [hline])
  have := few_ok hsts hl pos env
  unfold methodCallForm
  exact this
theorem pe_methS (he : PE X o ta) (c : Cls X.K C) (hm : Meth X.K C m f) (F : FnOk X.prog X.w X.K X.mg X.base CX k f fd ps sp) (hr : Room k X.A) (hb : Binds X.K fd ps []) (hx : ∀ σ, PassesAt CX X σ (E σ)) {e : Expr} (ha : PA X (e :: es) t)
    (hs : nsup o = true) (hsts : nsts (e :: es) = true) (hl : (e :: es).length < 20) (hline : apos.endLine = pos.line) :
    PE X (.Call (.Attribute o m apos) (e :: es) [] pos) (fun σ H Q => ta σ H fun x H1 => ∃ a dx fs, x = .ref a ∧ H1 a = some (.ins C dx fs) ∧ fs.lookup m = none ∧ t σ H1 fun vs H2 => sp (x :: vs) H2 Q (E σ)) := by
  obtain ⟨h1, h2⟩ := Bool.and_eq_true_iff.mp (show (nst e && nsts es) = true from hsts)
  refine ⟨fun pins s σ H Q I h => ?_⟩
  refine PySem.W.methodCall_KW (pl := plainOf o X.env) (thn (he.run pins s σ H _ I h) fun u s1 ⟨x, H1, I1, rx, a, dx, fs, ex, ea, l, q⟩ => ?_) (meth_eq hs hsts hl hline)
  subst ex
  obtain rfl : u = Value.ref a := rx
  refine getmeth_ok I1 ea c hm l ?_
  refine PySem.W.callWith_K (first := [.ref a]) (h₀ := X.base) I.ok.mod.kin hm.kp (thn (ha.run pos pins s1 σ H1 _ I1 q) fun us s2 ⟨vs, H2, I2, r, q2⟩ => ⟨I2.kIn, ?_⟩) (nst_ok h1 es X.env) (plain_ok h2 pos X.env)
  exact run_fnS (us := .ref a :: us) (vs := .ref a :: vs) F hr hb (hx σ) I2 (.cons rfl r) q2
theorem pe_methS0 (he : PE X o ta) (c : Cls X.K C) (hm : Meth X.K C m f) (F : FnOk X.prog X.w X.K X.mg X.base CX k f fd ps sp) (hr : Room k X.A) (hb : Binds X.K fd ps []) (hx : ∀ σ, PassesAt CX X σ (E σ))
    (hs : nsup o = true) (hline : apos.endLine = pos.line) :
    PE X (.Call (.Attribute o m apos) [] [] pos) (fun σ H Q => ta σ H fun x H1 => ∃ a dx fs, x = .ref a ∧ H1 a = some (.ins C dx fs) ∧ fs.lookup m = none ∧ sp [x] H1 Q (E σ)) := by
  refine ⟨fun pins s σ H Q I h => ?_⟩
  refine PySem.W.methodCall_KW (pl := plainOf o X.env) (thn (he.run pins s σ H _ I h) fun u s1 ⟨x, H1, I1, rx, a, dx, fs, ex, ea, l, q⟩ => ?_) (meth_eq hs rfl (by decide) hline)
  subst ex
  obtain rfl : u = Value.ref a := rx
  refine getmeth_ok I1 ea c hm l ?_
  exact PySem.W.callWith_K0 (first := [.ref a]) I1.kIn hm.kp (run_fnS (us := [.ref a]) (vs := [.ref a]) F hr hb (hx σ) I1 (.cons rfl .nil) q)
theorem run_makeS {pins : List (Addr × Obj)} {σ : L2.St} {H : Hp} {s : Shared} {Q : VK} {us : List Value} {vs : List V} (M : Mk X.K C f) (F : FnOk X.prog X.w X.K X.mg X.base CX k f fd ps sp) (hr : Room (k + 1) X.A) (hb : Binds X.K fd ps [])
    (hx : PassesAt CX X σ (E σ)) (I : Inv X pins σ H s) (r : Vals vs us)
    (h : ∀ x dx, H x = none → H dx = none → dx ≠ x → sp (.ref x :: vs) (upd (upd H dx (.own x)) x (.ins C dx [])) (fun v H2 => v = .non ∧ Q (.ref x) H2) (E σ)) :
    wpAny (model X.prog X.w) X.A (PySem.call (.ref C) us) (EP X pins σ Q) X.xe s := by
  have hq := h (s.heap.objs.size + 1) s.heap.objs.size (I.hok.fresh (Nat.le_succ _)) (I.hok.fresh (Nat.le_refl _)) (Nat.ne_of_lt (Nat.lt_succ_self _))
  have I2 := Inv.made (C := C) I
  have r2 : Vals (V.ref (s.heap.objs.size + 1) :: vs) (Value.ref (s.heap.objs.size + 1) :: us) := .cons rfl r
  have hl : (Value.ref (s.heap.objs.size + 1) :: us).length = ps.length := by
    have e := r2.length
    rw [F.len _ _ _ _ hq] at e
    exact e.symm
  have b := hb _ (Value.ref (s.heap.objs.size + 1) :: us) I2.kIn (by rw [List.append_nil]; exact hl)
  rw [List.append_nil] at b
  refine PySem.wpAny_call (make_map (f := f) I.kIn M.makes M.init (beq_iff_eq.mp M.fn) (codeAny_mono (F.run _ X.stack _ _ ⟨Value.ref (s.heap.objs.size + 1) :: us, []⟩ (Value.ref (s.heap.objs.size + 1) :: us) _ _ (E σ) (hr.make C us [])
    (I2.env0.make C us []) b r2 hq) fun r s' hq' => ?_))
  cases r with
  | error e => exact hx pins _ _ e s' I2 hq'
  | ok fl =>
    cases fl with
    | ret u =>
      obtain ⟨v, H', I3, rv, ev, q3⟩ := I2.after hq'
      subst ev
      exact ⟨rv, ⟨V.ref (s.heap.objs.size + 1), H', I3, rfl, q3⟩⟩
    | next => exact False.elim hq'
    | brk => exact False.elim hq'
    | cont => exact False.elim hq'
/-- C(..) -/
def tMkS (C : Addr) (sp : Sp) (E : L2.St → XK) (t : TA) : TE := fun σ H Q => t σ H fun vs H1 => ∀ x dx, H1 x = none → H1 dx = none → dx ≠ x → sp (.ref x :: vs) (upd (upd H1 dx (.own x)) x (.ins C dx [])) (fun v H2 => v = .non ∧ Q (.ref x) H2) (E σ)
theorem pe_makeS (M : Mk X.K C f) (F : FnOk X.prog X.w X.K X.mg X.base CX k f fd ps sp) (hr : Room (k + 1) X.A) (hg : L2.Gl X x) (hm : X.mg x = some (.ref C)) (hb : Binds X.K fd ps []) (hx : ∀ σ, PassesAt CX X σ (E σ)) {e : Expr}
    (ha : PA X (e :: es) t) (hdb : (x == ("__debug__" : Str)) = false) (hsts : nsts (e :: es) = true) : PE X (.Call (.Name x p) (e :: es) [] pos) (tMkS C sp E t) := by
  obtain ⟨h1, h2⟩ := Bool.and_eq_true_iff.mp (show (nst e && nsts es) = true from hsts)
  refine ⟨fun pins s σ H Q I h => ?_⟩
  refine PySem.wpAny_Call_Name_kw (ld_glob I hg hm ?_ hdb)
  refine PySem.W.callWith_K (h₀ := X.base) I.ok.mod.kin M.kp (thn (ha.run pos pins s σ H _ I h) fun us s1 ⟨vs, H1, I1, r, q⟩ => ⟨I1.kIn, ?_⟩) (nst_ok h1 es X.env) (plain_ok h2 pos X.env)
  exact run_makeS M F hr hb (hx σ) I1 r q
theorem pe_makeS0 (M : Mk X.K C f) (F : FnOk X.prog X.w X.K X.mg X.base CX k f fd ps sp) (hr : Room (k + 1) X.A) (hg : L2.Gl X x) (hm : X.mg x = some (.ref C)) (hb : Binds X.K fd ps []) (hx : ∀ σ, PassesAt CX X σ (E σ))
    (hdb : (x == ("__debug__" : Str)) = false) : PE X (.Call (.Name x p) [] [] pos) (tMkS C sp E tNil) := by
  refine ⟨fun pins s σ H Q I h => ?_⟩
  refine PySem.wpAny_Call_Name_kw (ld_glob I hg hm ?_ hdb)
  exact PySem.W.callWith_K0 I.kIn M.kp (run_makeS (us := []) M F hr hb (hx σ) I .nil h)
/-- a built-in function or class, no matter which -/
theorem pe_bi {b : Bi} {r : List V → Hp → VK → Prop} (hc : CallR X (biV b) r) (hg : L2.Gl X (biN b)) (hm : X.mg (biN b) = none) {e : Expr} (ha : PA X (e :: es) t) (hsts : nsts (e :: es) = true) : PE X (.Call (.Name (biN b) p) (e :: es) [] pos) (tCB r t) := by
  obtain ⟨h1, h2⟩ := Bool.and_eq_true_iff.mp (show (nst e && nsts es) = true from hsts)
  have n := nst_ok h1 es X.env
  have pl := plain_ok h2 pos X.env
  cases b with
  | len => exact pe_callB hc hg hm (by decide +kernel) ha (by decide) (by decide) n pl
  | int => exact pe_callTy hc hg hm (by decide +kernel) ha (by decide) (by decide) n pl
  | abs => exact pe_callB hc hg hm (by decide +kernel) ha (by decide) (by decide) n pl
  | min => exact pe_callB hc hg hm (by decide +kernel) ha (by decide) (by decide) n pl
  | max => exact pe_callB hc hg hm (by decide +kernel) ha (by decide) (by decide) n pl
  | sum => exact pe_callB hc hg hm (by decide +kernel) ha (by decide) (by decide) n pl
  | str => exact pe_callTy hc hg hm (by decide +kernel) ha (by decide) (by decide) n pl
  | list => exact pe_callTy hc hg hm (by decide +kernel) ha (by decide) (by decide) n pl
  | tuple => exact pe_callTy hc hg hm (by decide +kernel) ha (by decide) (by decide) n pl
  | sorted => exact pe_callB hc hg hm (by decide +kernel) ha (by decide) (by decide) n pl
end
section
variable {X : Cx} {o : Expr} {es : List Expr} {to : TE} {t : TA} {apos pos : Pos}
theorem pe_bmA {m : Bm} {r : V → List V → Hp → VK → Prop} (hm : MtR X (bmI m) r) (ho : PE X o to) {e : Expr} (ha : PA X (e :: es) t) (hs : nsup o = true) (hsts : nsts (e :: es) = true) (hl : (e :: es).length < 20) (hline : apos.endLine = pos.line) :
    PE X (.Call (.Attribute o (bmN m) apos) (e :: es) [] pos) (tBM X.K (bmT m) r to t) := by
  obtain ⟨h1, h2⟩ := Bool.and_eq_true_iff.mp (show (nst e && nsts es) = true from hsts)
  have n := nst_ok h1 es X.env
  have pl := plain_ok h2 pos X.env
  have fw := few_ok hsts hl pos X.env
  have ln : (apos.endLine == pos.line) = true := by simp [hline]
  have hb := fun f => nsup_ok hs f X.env
  cases m with
  | append => exact pe_bm PySem.F.plainAttrs_list PySem.F.slot_list_append PySem.F.type_list_append hm ho ha (hb _) fw ln n pl
  | extend => exact pe_bm PySem.F.plainAttrs_list PySem.F.slot_list_extend PySem.F.type_list_extend hm ho ha (hb _) fw ln n pl
  | pop => exact pe_bm PySem.F.plainAttrs_list PySem.F.slot_list_pop PySem.F.type_list_pop hm ho ha (hb _) fw ln n pl
  | index => exact pe_bm PySem.F.plainAttrs_list PySem.F.slot_list_index PySem.F.type_list_index hm ho ha (hb _) fw ln n pl
  | split => exact pe_bm PySem.F.plainAttrs_str PySem.F.slot_str_split PySem.F.type_str_split hm ho ha (hb _) fw ln n pl
  | join => exact pe_bm PySem.F.plainAttrs_str PySem.F.slot_str_join PySem.F.type_str_join hm ho ha (hb _) fw ln n pl
  | startswith => exact pe_bm PySem.F.plainAttrs_str PySem.F.slot_str_startswith PySem.F.type_str_startswith hm ho ha (hb _) fw ln n pl
  | get => exact pe_bm PySem.F.plainAttrs_dict PySem.F.slot_dict_get PySem.F.type_dict_get hm ho ha (hb _) fw ln n pl
theorem pe_bmA0 {r : V → List V → Hp → VK → Prop} (hm : MtR X "list.pop" r) (ho : PE X o to) (hs : nsup o = true) (hline : apos.endLine = pos.line) :
    PE X (.Call (.Attribute o "pop" apos) [] [] pos) (tBM0 X.K "list" r to) :=
  pe_bm0 PySem.F.plainAttrs_list PySem.F.slot_list_pop PySem.F.type_list_pop hm ho (nsup_ok hs _ X.env) (by simp [hline])
end
/-! ### comparisons, three in a chain -/
section
variable {X : Cx} {a b c d : Expr} {ta tb tc td : TE} {pos : Pos}
theorem pc_op {op : CmpOp} {r : R2} (ho : OpR X (compareOp op) r) (ha : PE X a ta) (hb : PE X b tb) : PC X op a b (tOp r ta tb) := ⟨fun pins s σ H Q I h => binT ha hb I h fun v u s2 x y H2 I2 rx ry q => ho pins s2 σ H2 x y v u Q I2 rx ry q⟩
def tChain3 (r r' r'' : R2) (ta tb tc td : TE) : TE := fun σ H Q => ta σ H fun x H1 => tb σ H1 fun y H2 => r x y H2 fun z H3 => ∃ k, z = .bl k ∧
  (if k = true then tc σ H3 fun w' H4 => r' y w' H4 fun z H5 => ∃ k, z = .bl k ∧ (if k = true then td σ H5 fun u H6 => r'' w' u H6 Q else Q (.bl false) H5) else Q (.bl false) H3)
theorem pe_chain3 {op op' op'' : CmpOp} {r r' r'' : R2} (ho : OpR X (compareOp op) r) (ho' : OpR X (compareOp op') r') (ho'' : OpR X (compareOp op'') r'') (ha : PE X a ta) (hb : PE X b tb) (hc : PE X c tc) (hd : PE X d td)
    (hm : lastMarks [op, op', op''] [b, c, d] = false) : PE X (.Compare a [op, op', op''] [b, c, d] pos) (tChain3 r r' r'' ta tb tc td) := by
  refine ⟨fun pins s σ H Q I h => ?_⟩
  refine PyProof.Rows.Compare_chain (thn (ha.run pins s σ H _ I h) fun v s1 ⟨x, H1, I1, r1, q1⟩ => PyProof.Rows.chain_link (thn (hb.run pins s1 σ H1 _ I1 q1) fun u s2 ⟨y, H2, I2, r2, q2⟩ =>
    thn (ho pins s2 σ H2 x y v u _ I2 r1 r2 q2) fun d s3 ⟨z, H3, I3, r3, k, e, q3⟩ => ?_)) hm
  subst e
  cases r3
  refine PySem.wpAny_truthy_bool ?_
  cases k with
  | false => exact PyProof.Rows.ite_ff ⟨.bl false, H3, I3, rfl, q3⟩
  | true =>
    refine PyProof.Rows.ite_tt (PyProof.Rows.chain_link (thn (hc.run pins s3 σ H3 _ I3 q3) fun w' s4 ⟨z', H4, I4, r4, q4⟩ => thn (ho' pins s4 σ H4 y z' u w' _ I4 r2 r4 q4) fun d s5 ⟨z5, H5, I5, r5, k5, e5, q5⟩ => ?_))
    subst e5
    cases r5
    refine PySem.wpAny_truthy_bool ?_
    cases k5 with
    | false => exact PyProof.Rows.ite_ff ⟨.bl false, H5, I5, rfl, q5⟩
    | true => exact PyProof.Rows.ite_tt (PyProof.Rows.chain_last (thn (hd.run pins s5 σ H5 _ I5 q5) fun w6 s6 ⟨z6, H6, I6, r6, q6⟩ => ho'' pins s6 σ H6 z' z6 w' w6 Q I6 r4 r6 q6))
theorem pt_chain3 {op op' op'' : CmpOp} {r r' r'' : R2} (ho : OpR X (compareOp op) r) (ho' : OpR X (compareOp op') r') (ho'' : OpR X (compareOp op'') r'') (ha : PE X a ta) (hb : PE X b tb) (hc : PE X c tc) (hd : PE X d td)
    (hm : lastMarks [op, op', op''] [b, c, d] = false) : PT X (.Compare a [op, op', op''] [b, c, d] pos) (tTest (tChain3 r r' r'' ta tb tc td)) := by
  refine ⟨fun pins s σ H Q I h => ?_⟩
  refine PyProof.Rows.isTrue_chain (thn (ha.run pins s σ H _ I h) fun v s1 ⟨x, H1, I1, r1, q1⟩ => PyProof.Rows.test_link (thn (hb.run pins s1 σ H1 _ I1 q1) fun u s2 ⟨y, H2, I2, r2, q2⟩ =>
    thn (ho pins s2 σ H2 x y v u _ I2 r1 r2 q2) fun d s3 ⟨z, H3, I3, r3, k, e, q3⟩ => ?_)) hm
  subst e
  cases r3
  refine PySem.wpAny_truthy_bool ?_
  cases k with
  | false =>
    obtain ⟨k', e', q'⟩ := q3
    cases e'
    exact PyProof.Rows.ite_ff ⟨H3, I3, q'⟩
  | true =>
    refine PyProof.Rows.ite_tt (PyProof.Rows.test_link (thn (hc.run pins s3 σ H3 _ I3 q3) fun w' s4 ⟨z', H4, I4, r4, q4⟩ => thn (ho' pins s4 σ H4 y z' u w' _ I4 r2 r4 q4) fun d s5 ⟨z5, H5, I5, r5, k5, e5, q5⟩ => ?_))
    subst e5
    cases r5
    refine PySem.wpAny_truthy_bool ?_
    cases k5 with
    | false =>
      obtain ⟨k', e', q'⟩ := q5
      cases e'
      exact PyProof.Rows.ite_ff ⟨H5, I5, q'⟩
    | true =>
      refine PyProof.Rows.ite_tt (PyProof.Rows.test_last (thn (hd.run pins s5 σ H5 _ I5 q5) fun w6 s6 ⟨z6, H6, I6, r6, q6⟩ => thn (ho'' pins s6 σ H6 z' z6 w' w6 _ I6 r4 r6 q6) fun d' s7 ⟨z7, H7, I7, r7, k7, e7, q7⟩ => ?_))
      subst e7
      cases r7
      exact PySem.wpAny_truthy_bool ⟨H7, I7, q7⟩
end
end Dv
end

section
set_option Elab.async false
set_option autoImplicit false
set_option linter.all false
set_option maxRecDepth 100000
set_option maxHeartbeats 4000000
/-! DvK: an expression that matches is worth what the evaluator says. -/
namespace Dv
open PySem L2
section
variable (CA : Ca) (X : Cx) (W : WX)
def SE (e : Expr) (f : Env → Store → Out D) : Prop := ∀ (σ : L2.St) (H : Hp) (ρ : List Addr) (env : Env) (M : Store) (Q : VK), Rel CA X.K H ρ env σ M → Post CA X.K W σ H ρ (f env M) (kV' X.K Q) → TMX X e σ H Q
def ST (e : Expr) (f : Env → Store → Out Bool) : Prop := ∀ (σ : L2.St) (H : Hp) (ρ : List Addr) (env : Env) (M : Store) (Q : Bool → Hp → Prop), Rel CA X.K H ρ env σ M → Post CA X.K W σ H ρ (f env M) (fun b _ H' _ => Q b H') → TMT X e σ H Q
def SW (e : Expr) (f : Env → Store → Out Bool) : Prop := ∀ (σ : L2.St) (H : Hp) (ρ : List Addr) (env : Env) (M : Store) (Q : Bool → Hp → Prop), Rel CA X.K H ρ env σ M → Post CA X.K W σ H ρ (f env M) (fun b _ H' _ => Q b H') → TMW X e σ H Q
def SA (es : List Expr) (f : Env → Store → Out (List D)) : Prop := ∀ (σ : L2.St) (H : Hp) (ρ : List Addr) (env : Env) (M : Store) (Q : List V → Hp → Prop), Rel CA X.K H ρ env σ M → Post CA X.K W σ H ρ (f env M) (fun ds _ H' ρ' => ∀ vs, RVs X.K H' ρ' ds vs → Q vs H') → TMA X es σ H Q
def SPt (o : Option Expr) (f : Env → Store → Out (Option Int)) : Prop := ∀ (σ : L2.St) (H : Hp) (ρ : List Addr) (env : Env) (M : Store) (Q : Option Int → Hp → Prop), Rel CA X.K H ρ env σ M → Post CA X.K W σ H ρ (f env M) (fun b _ H' _ => Q b H') → TMP X o σ H Q
/-- a source's iterator -/
def ItOk (H0 : Hp) (ρ0 : List Addr) (src : Src) (J : It) : Prop := ∀ (i : Nat) (H : Hp) (ρ : List Addr) (M : Store), St8 H0 ρ0 H ρ → RS CA X.K H ρ M → src.stands M = true →
  (∀ d, src.items[i]? = some d → J.go i H ∧ ∀ x H', J.yld i H x H' → H' = H ∧ RV X.K H ρ d x) ∧ (i = src.items.length → J.stop i H)
def SI (tg e : Expr) (f : Env → Store → Out Src) : Prop := ∀ (σ : L2.St) (H : Hp) (ρ : List Addr) (env : Env) (M : Store) (R : It → Hp → Prop), Rel CA X.K H ρ env σ M → Post CA X.K W σ H ρ (f env M) (fun s _ H' ρ' => ∀ J, ItOk CA X H' ρ' s J → R J H') → TMI X tg e σ H R
end
section
variable {CA : Ca} {X : Cx} {W : WX}
/-- a value's test -/
theorem SE.test {e : Expr} {f : Env → Store → Out D} (h : SE CA X W e f) (nb : nbl e = true) : ST CA X W e fun env M => (f env M).bind fun x M1 => ofO (truD M1 x) M1 := by
  intro σ H ρ env M Q rel p
  refine tm_pt (pt_truth (pe_tm X e) fun whole => nbl_ok nb X.env whole) ?_
  refine h σ H ρ env M _ rel (p.bind.mono fun x M1 H1 ρ1 _ s1 R1 p1 v hv => ?_)
  obtain ⟨b, e1, p1⟩ := p1.ofO
  exact ⟨b, truD_ok R1 hv e1, p1.here R1⟩
theorem SE.part {e : Expr} {f : Env → Store → Out D} (h : SE CA X W e f) : SPt CA X W (some e) fun env M => (f env M).bind fun x M1 => asInt M1 x := by
  intro σ H ρ env M Q rel p
  refine tm_po (po_some (pe_tm X e)) ?_
  refine h σ H ρ env M _ rel (p.bind.mono fun x M1 H1 ρ1 _ s1 R1 p1 v hv => ?_)
  unfold asInt at p1
  split at p1
  · exact ⟨_, rv_int hv, p1.here R1⟩
  · exact p1.elim
theorem its_int (lo : Int) (n : Nat) (i : Nat) (d : D) (h : ((List.range n).map fun (i : Nat) => D.int (lo + (i : Nat)))[i]? = some d) : i < n ∧ d = .int (lo + i) := by
  rw [List.getElem?_map] at h
  cases q : (List.range n)[i]? with
  | none => rw [q] at h; cases h
  | some j =>
    rw [q] at h
    obtain ⟨h1, h2⟩ := List.getElem?_eq_some_iff.mp q
    rw [List.getElem_range] at h2
    rw [List.length_range] at h1
    subst h2
    cases h
    exact ⟨h1, rfl⟩
theorem itOk_rng {H0 : Hp} {ρ0 : List Addr} (lo : Int) (n : Nat) : ItOk CA X H0 ρ0 (.its ((List.range n).map fun (i : Nat) => D.int (lo + (i : Nat)))) (Itr lo n) := by
  intro i H ρ M s R st
  refine ⟨fun d hd => ?_, fun hi => ?_⟩
  · obtain ⟨h1, rfl⟩ := its_int lo n i d hd
    exact ⟨h1, fun x H' ⟨e, ex⟩ => ⟨e, by rw [ex]; exact of_int⟩⟩
  · have : i = n := by simpa [Src.items] using hi
    exact Nat.le_of_eq this.symm
theorem itOk_lst {H0 : Hp} {ρ0 : List Addr} {n : Nat} {xs : List D} {a : Addr} (e : ρ0[n]? = some a) : ItOk CA X H0 ρ0 (.lst n xs) (Itl X.K a) := by
  intro i H ρ M s R st
  have q : M[n]? = some (.lst xs) := by
    simpa [Src.stands] using st
  obtain ⟨b, vs, e1, e2, r⟩ := R.lst' q
  have e3 := prefix_get s.pre e
  rw [e1] at e3
  cases e3
  refine ⟨fun d hd => ?_, fun hi => ⟨vs, SqL.of e2, by rw [RVs.length r]; exact Nat.le_of_eq hi.symm⟩⟩
  obtain ⟨v, e4, r4⟩ := RVs.get r hd
  refine ⟨⟨vs, v, SqL.of e2, e4⟩, fun x H' ⟨e5, e6⟩ => ⟨e5, ?_⟩⟩
  have := e6 vs (SqL.of e2)
  rw [e4] at this
  cases this
  exact r4
theorem itOk_tup {H0 : Hp} {ρ0 : List Addr} {M0 : Store} {xs : List D} {vs : List V} {a : Addr} (R0 : RS CA X.K H0 ρ0 M0) (e : H0 a = some (.tup vs)) (r0 : RVs X.K H0 ρ0 xs vs) : ItOk CA X H0 ρ0 (.its xs) (Itt X.K a) := by
  intro i H ρ M s R st
  have e2 : H a = some (.tup vs) := sqT_mono R0 s e
  have r := RVs.mono R0 s _ _ r0
  refine ⟨fun d hd => ?_, fun hi => ⟨vs, SqT.of e2, by rw [RVs.length r]; exact Nat.le_of_eq hi.symm⟩⟩
  obtain ⟨v, e4, r4⟩ := RVs.get r hd
  refine ⟨⟨vs, v, SqT.of e2, e4⟩, fun x H' ⟨e5, e6⟩ => ⟨e5, ?_⟩⟩
  have := e6 vs (SqT.of e2)
  rw [e4] at this
  cases this
  exact r4
theorem itOk_rol {H0 : Hp} {ρ0 : List Addr} {M0 : Store} {xs : List Int} {a : Addr} (R0 : RS CA X.K H0 ρ0 M0) (e : FrzL X.K H0 a (xs.map V.int)) : ItOk CA X H0 ρ0 (.its (xs.map D.int)) (Itl X.K a) := by
  intro i H ρ M s R st
  have e2 := (frzL_mono R0 s e).sq
  have r : RVs X.K H ρ (xs.map D.int) (xs.map V.int) := RVs.of_ints
  refine ⟨fun d hd => ?_, fun hi => ⟨_, e2, by rw [RVs.length r]; exact Nat.le_of_eq hi.symm⟩⟩
  obtain ⟨v, e4, r4⟩ := RVs.get r hd
  refine ⟨⟨_, v, e2, e4⟩, fun x H' ⟨e5, e6⟩ => ⟨e5, ?_⟩⟩
  have := e6 _ e2
  rw [e4] at this
  cases this
  exact r4
theorem itOk_str {H0 : Hp} {ρ0 : List Addr} {z : Str} : ItOk CA X H0 ρ0 (.its (z.cps.toList.map fun c => .str ⟨#[c]⟩)) (Its z) := by
  intro i H ρ M s R st
  refine ⟨fun d hd => ?_, fun hi => ?_⟩
  · have hd' : (z.cps.toList.map fun c => D.str ⟨#[c]⟩)[i]? = some d := hd
    rw [List.getElem?_map] at hd'
    cases q : z.cps.toList[i]? with
    | none => rw [q] at hd'; cases hd'
    | some c =>
      rw [q] at hd'
      cases hd'
      rw [Array.getElem?_toList] at q
      refine ⟨(Array.getElem?_eq_some_iff.mp q).1, fun x H' ⟨e5, k, e6, e7⟩ => ⟨e5, ?_⟩⟩
      rw [q] at e6
      cases e6
      rw [e7]
      exact of_str
  · have : i = z.cps.size := by simpa [Src.items] using hi
    exact Nat.le_of_eq this.symm
theorem SE.src {tg e : Expr} {f : Env → Store → Out D} (h : SE CA X W e f) : SI CA X W tg e fun env M => (f env M).bind fun x M1 => srcOf M1 x := by
  intro σ H ρ env M R rel p
  have p1 := p.bind
  have fin : ∀ (wi : TE → TI), (∀ tl, PE X e tl → PI X tg e (wi tl)) → (∀ σ H, wi (TMX X e) σ H R = TMX X e σ H (fun x H1 => wi (fun _ H Q => Q x H) σ H1 R)) → (∀ d M1 H1 ρ1, f env M = .ok d M1 → St8 H ρ H1 ρ1 → RS CA X.K H1 ρ1 M1 → Post CA X.K W σ H1 ρ1 (srcOf M1 d) (fun s _ H' ρ' => ∀ J, ItOk CA X H' ρ' s J → R J H') → ∀ v, RV X.K H1 ρ1 d v → wi (fun _ H Q => Q v H) σ H1 R) → TMI X tg e σ H R :=
    fun wi h1 h2 h3 => tm_pi (h1 _ (pe_tm X e)) (by
      rw [h2]
      exact h σ H ρ env M _ rel (p1.mono fun d M1 H1 ρ1 eo s1 R1 pp v hv => h3 d M1 H1 ρ1 eo s1 R1 pp v hv))
  cases hf : f env M with
  | bad => rw [hf] at p1; exact p1.elim
  | exc c fs M1 =>
    exact fin (iList X.K) (fun tl h => pi_list h) (fun _ _ => rfl) fun d M1 H1 ρ1 eo => by rw [hf] at eo; cases eo
  | ok d M1 =>
    cases d with
    | loc n =>
      refine fin (iList X.K) (fun tl h => pi_list h) (fun _ _ => rfl) fun d M1 H1 ρ1 eo s1 R1 pp v hv => ?_
      rw [hf] at eo
      cases eo
      simp only [srcOf] at pp
      split at pp
      · rename_i xs q
        obtain ⟨a, vs, rfl, ea, e2, r⟩ := rv_lst R1 hv q
        exact ⟨a, rfl, ⟨vs, SqL.of e2⟩, pp.here R1 _ (itOk_lst ea)⟩
      · exact pp.elim
    | tup xs =>
      refine fin (iTup X.K) (fun tl h => pi_tup h) (fun _ _ => rfl) fun d M1 H1 ρ1 eo s1 R1 pp v hv => ?_
      rw [hf] at eo
      cases eo
      obtain ⟨a, vs, rfl, e2, r⟩ := rv_tup hv
      exact ⟨a, rfl, ⟨vs, SqT.of e2⟩, pp.here R1 _ (itOk_tup R1 e2 r)⟩
    | rol xs =>
      refine fin (iList X.K) (fun tl h => pi_list h) (fun _ _ => rfl) fun d M1 H1 ρ1 eo s1 R1 pp v hv => ?_
      rw [hf] at eo
      cases eo
      obtain ⟨a, rfl, e2⟩ := rv_rol hv
      exact ⟨a, rfl, ⟨_, e2.sq⟩, pp.here R1 _ (itOk_rol R1 e2)⟩
    | str z =>
      refine fin iStr (fun tl h => pi_str h) (fun _ _ => rfl) fun d M1 H1 ρ1 eo s1 R1 pp v hv => ?_
      rw [hf] at eo
      cases eo
      exact ⟨z, rv_str hv, pp.here R1 _ itOk_str⟩
    | _ =>
      refine fin (iList X.K) (fun tl h => pi_list h) (fun _ _ => rfl) fun d M1 H1 ρ1 eo s1 R1 pp v hv => ?_
      rw [hf] at eo
      cases eo
      exact pp.elim
end
/-! ### all that an expression may be -/
structure All (CA : Ca) (X : Cx) (W : WX) (s : Sem) (m : Mt) : Prop where
  e : ∀ e, m.e e = true → SE CA X W e s.e
  t : ∀ e, m.e e = true → ST CA X W e s.t
  a : ∀ es, m.a es = true → SA CA X W es s.a
  bo : ∀ op vs, m.bo op vs = true → ∀ pos, SE CA X W (.BoolOp op vs pos) s.e ∧ SW CA X W (.BoolOp op vs pos) s.t
  p : ∀ o, m.p o = true → SPt CA X W o s.p
  i : ∀ tg e, m.i e = true → SI CA X W tg e s.i
  c : ∀ l, m.c l = true → (l = [] ∧ ∀ env M, s.c env M = .ok true M) ∨ ∃ e, l = [e] ∧ ST CA X W e s.c
  n : ∀ es env M ds M1, m.a es = true → s.a env M = .ok ds M1 → ds.length = es.length
  z : ∀ es, m.a es = true → es = [] → ∀ env M, s.a env M = .ok [] M
section
variable {CA : Ca} {X : Cx} {W : WX}
theorem SE.bo1 {e : Expr} {f : Env → Store → Out D} (h : SE CA X W e f) (op : BoolOp) (pos : Pos) : SE CA X W (.BoolOp op [e] pos) f := fun σ H ρ env M Q rel p => tm_pe (pe_one (pe_tm X e)) (h σ H ρ env M Q rel p)
theorem ST.bo1 {e : Expr} {f : Env → Store → Out Bool} (h : ST CA X W e f) (op : BoolOp) (pos : Pos) : SW CA X W (.BoolOp op [e] pos) f := fun σ H ρ env M Q rel p => by
  cases op with
  | And => exact tm_pw (pw_and1 (pt_tm X e)) (h σ H ρ env M Q rel p)
  | Or => exact tm_pw (pw_or1 (pt_tm X e)) (h σ H ρ env M Q rel p)
theorem All.mk' {g : Env → Store → Out D} {t : Env → Store → Out Bool} {f : Expr → Bool} (he : ∀ e, f e = true → SE CA X W e g) (ht : ∀ e, f e = true → ST CA X W e t) : All CA X W (semT g t) (mtE f) where
  e := he
  t := ht
  a := fun es h => by cases h
  bo := fun op vs h pos => by
    cases vs with
    | nil => cases h
    | cons v r =>
      cases r with
      | nil => exact ⟨(he v h).bo1 op pos, (ht v h).bo1 op pos⟩
      | cons _ _ => cases h
  p := fun o h => by
    cases o with
    | none => cases h
    | some x => exact (he x (Bool.and_eq_true_iff.mp h).1).part
  i := fun tg e h => (he e (Bool.and_eq_true_iff.mp h).1).src
  c := fun l h => by
    cases l with
    | nil => cases h
    | cons v r =>
      cases r with
      | nil => exact .inr ⟨v, rfl, ht v h⟩
      | cons _ _ => cases h
  n := fun es env M ds M1 h => by cases h
  z := fun es h => by cases h
theorem All.val {g : Env → Store → Out D} {f : Expr → Bool} (he : ∀ e, f e = true → SE CA X W e g ∧ nbl e = true) : All CA X W (semE g) (mtE f) :=
  All.mk' (g := g) (t := fun e M => (g e M).bind fun x M1 => ofO (truD M1 x) M1) (fun e h => (he e h).1) fun e h => (he e h).1.test (he e h).2
theorem All.none {s : Sem} : All CA X W s (mtE fun _ => false) where
  e := fun e h => by cases h
  t := fun e h => by cases h
  a := fun es h => by cases h
  bo := fun op vs h pos => by
    cases vs with
    | nil => cases h
    | cons v r => cases r <;> cases h
  p := fun o h => by cases o <;> cases h
  i := fun tg e h => by cases h
  c := fun l h => by
    cases l with
    | nil => cases h
    | cons v r => cases r <;> cases h
  n := fun es env M ds M1 h => by cases h
  z := fun es h => by cases h
/-! small ones -/
theorem SE.const {e : Expr} {v : V} {d : D} (h : PE X e (tC v)) (r : ∀ H ρ, RV X.K H ρ d v) : SE CA X W e fun _ M => .ok d M := fun σ H ρ env M Q rel p => tm_pe h (p.here rel.st v (r H ρ))
/-- two in a row -/
theorem SE.two {a b : Expr} {fa fb : Env → Store → Out D} (ha : SE CA X W a fa) (hb : SE CA X W b fb) {g : D → D → Store → Out D} {r : R2} {σ : L2.St} {H : Hp} {ρ : List Addr} {env : Env} {M : Store} {Q : VK} (rel : Rel CA X.K H ρ env σ M)
    (p : Post CA X.K W σ H ρ ((fa env M).bind fun x M1 => (fb env M1).bind fun y M2 => g x y M2) (kV' X.K Q))
    (hg : ∀ x y M2 H2 ρ2 v w, St8 H ρ H2 ρ2 → RS CA X.K H2 ρ2 M2 → RV X.K H2 ρ2 x v → RV X.K H2 ρ2 y w → Post CA X.K W σ H2 ρ2 (g x y M2) (kV' X.K Q) → r v w H2 Q) : tOp r (TMX X a) (TMX X b) σ H Q := by
  refine ha σ H ρ env M _ rel (p.bind.mono fun x M1 H1 ρ1 _ s1 R1 p1 v hv => ?_)
  refine hb σ H1 ρ1 env M1 _ (rel.next s1 R1) (p1.bind.mono fun y M2 H2 ρ2 _ s2 R2 p2 w hw => ?_)
  exact hg x y M2 H2 ρ2 v w (s1.trans s2) R2 (RV.mono R1 s2 _ _ hv) hw p2
end
end Dv
end

section
set_option Elab.async false
set_option autoImplicit false
set_option linter.all false
set_option maxRecDepth 100000
set_option maxHeartbeats 4000000
/-! DvL: targets, comprehensions. -/
namespace Dv
open PySem L2
/-! ### targets -/
def gNames : List Nat → TGs
  | [] => gNil
  | i :: r => gCons (gName i) (gNames r)
def gT (K : PySem.W.Frag) (tg : List Nat) (sole : Bool) : TG := match sole, tg with
  | true, [i] => gName i
  | _, _ => gTup K tg.length (gNames tg)
theorem names_each : ∀ {es : List Expr} {env : PySem.Env}, (∀ e ∈ es, ∃ y p, e = .Name y p) → (assignEach es env).length = es.length ∧ (assignEach es env).findIdx? (·.1) = none
  | [], _, _ => ⟨rfl, rfl⟩
  | e :: es, env, h => by
    obtain ⟨y, p, rfl⟩ := h e List.mem_cons_self
    obtain ⟨h1, h2⟩ := names_each (env := env) fun e he => h e (List.mem_cons_of_mem _ he)
    refine ⟨congrArg Nat.succ h1, ?_⟩
    show ((false, assign (.Name y p) env) :: assignEach es env).findIdx? (·.1) = none
    rw [List.findIdx?_cons, h2]
    rfl
section
variable {X : Cx}
theorem pgs_names (nd : X.N.Nodup) : ∀ {es : List Expr} {tg : List Nat}, es.length = tg.length → (∀ q ∈ es.zip tg, ∃ y p, q.1 = .Name y p ∧ X.N[q.2]? = some y ∧ Loc X.env.scope y ∧ (X.fn y = true ∨ X.env.scope.names.lookup y = some .local)) → PGs X es (gNames tg)
  | [], [], _, _ => pgs_nil
  | [], _ :: _, h, _ => by cases h
  | _ :: _, [], h, _ => by cases h
  | e :: es, i :: tg, h, hz => by
    obtain ⟨y, p, e1, e2, e3, e4⟩ := hz (e, i) List.mem_cons_self
    cases e1
    exact pgs_cons (pg_name nd e2 e3 e4) (pgs_names nd (Nat.succ.inj h) fun q hq => hz q (List.mem_cons_of_mem _ hq)) rfl
theorem lcl_both {fc : Bool} (hf : fc = true → ∀ y, X.fn y = true) {y : Str} (h : lclB fc X.env.scope y = true) : Loc X.env.scope y ∧ (X.fn y = true ∨ X.env.scope.names.lookup y = some .local) := by
  rcases lclB_ok h with h | ⟨h, e⟩
  · exact ⟨.inl h, .inr h⟩
  · exact ⟨.inr h, .inl (hf e y)⟩
theorem tgM_ok {fc : Bool} (hf : fc = true → ∀ y, X.fn y = true) (nd : X.N.Nodup) (hc : X.calm = true) {tg : List Nat} {sole : Bool} {x : Expr} (h : tgM X.N fc X.env.scope tg sole x = true) : PG X x (gT X.K tg sole) := by
  unfold tgM at h
  cases sole with
  | true =>
    simp only at h
    split at h
    · obtain ⟨h1, h2⟩ := Bool.and_eq_true_iff.mp h
      have l := lcl_both hf h2
      exact pg_name nd (of_decide_eq_true h1) l.1 l.2
    · cases h
  | false =>
    simp only at h
    split at h
    · rename_i es kk pos
      obtain ⟨h1, h2⟩ := Bool.and_eq_true_iff.mp h
      have hl : es.length = tg.length := of_decide_eq_true h1
      have hz : ∀ q ∈ es.zip tg, ∃ y p, q.1 = .Name y p ∧ X.N[q.2]? = some y ∧ Loc X.env.scope y ∧ (X.fn y = true ∨ X.env.scope.names.lookup y = some .local) := fun q hq => by
        have := List.all_eq_true.mp h2 q hq
        split at this
        · rename_i y p e
          obtain ⟨a, b⟩ := Bool.and_eq_true_iff.mp this
          exact ⟨y, p, e, of_decide_eq_true a, lcl_both hf b⟩
        · cases this
      have hn : ∀ e ∈ es, ∃ y p, e = .Name y p := fun e he => by
        obtain ⟨n, hn, rfl⟩ := List.mem_iff_getElem.mp he
        obtain ⟨y, p, e, _⟩ := hz (es[n], tg[n]'(hl ▸ hn)) (List.mem_iff_getElem.mpr ⟨n, by rw [List.length_zip]; omega, by rw [List.getElem_zip]⟩)
        exact ⟨y, p, e⟩
      obtain ⟨n1, n2⟩ := names_each (env := X.env) hn
      have := pg_tup (X := X) (k := kk) (pos := pos) hc (pgs_names nd hl hz) n1 n2
      rw [hl] at this
      cases tg with
      | nil => exact this
      | cons i r => cases r <;> exact this
    · cases h
end
theorem wipe_set {σ : L2.St} {x : Option V} : ∀ {vs : List Nat} {i : Nat}, i ∈ vs → wipe (σ.set i x) vs = wipe σ vs
  | [], _, h => by cases h
  | v :: vs, i, h => by
    unfold wipe
    by_cases hi : i ∈ vs
    · rw [wipe_set hi]
    · have e : i = v := by
        rcases List.mem_cons.mp h with e | h
        · exact e
        · exact absurd h hi
      subst e
      have key : ∀ (vs : List Nat) (σ : L2.St), i ∉ vs → wipe (σ.set i x) vs = (wipe σ vs).set i x := by
        intro vs
        induction vs with
        | nil => intro σ _; rfl
        | cons w vs ih =>
          intro σ h
          unfold wipe
          rw [ih σ fun z => h (List.mem_cons_of_mem _ z)]
          exact List.set_comm _ _ (fun z => h (z ▸ List.mem_cons_self))
      rw [key vs σ hi, List.set_set]
theorem wipe_wipe (σ : L2.St) (vs : List Nat) : wipe (wipe σ vs) vs = wipe σ vs := by
  have key : ∀ (us vs : List Nat) (σ : L2.St), (∀ u ∈ us, u ∈ vs) → wipe (wipe σ us) vs = wipe σ vs := by
    intro us
    induction us with
    | nil => intro vs σ _; rfl
    | cons u us ih =>
      intro vs σ h
      show wipe ((wipe σ us).set u none) vs = wipe σ vs
      rw [wipe_set (h u List.mem_cons_self)]
      exact ih vs σ fun w hw => h w (List.mem_cons_of_mem _ hw)
  exact key vs vs σ fun _ h => h
section
variable {K : PySem.W.Frag} {H : Hp} {ρ : List Addr}
theorem RE.wipe {e : Env} {σ : L2.St} (r : RE K H ρ e σ) : ∀ vs : List Nat, RE K H ρ (wipeD e vs) (wipe σ vs)
  | [] => r
  | v :: vs => (RE.wipe r vs).unset v
theorem gNames_ok {vs : List Nat} {Q : L2.St → Hp → Prop} : ∀ {tg : List Nat} {ds : List D} {ws : List V} {e e' : Env} {σ : L2.St}, RVs K H ρ ds ws → bindN tg ds e = some e' → RE K H ρ e σ →
    (∀ σ', RE K H ρ e' σ' → ((∀ i ∈ tg, i ∈ vs) → L2.wipe σ' vs = L2.wipe σ vs) → Q σ' H) → gNames tg ws σ H Q
  | [], [], ws, e, e', σ, r, b, re, q => by
    simp only [RVs] at r
    subst r
    simp only [bindN] at b
    cases b
    exact ⟨rfl, q σ re fun _ => rfl⟩
  | [], _ :: _, _, _, _, _, _, b, _, _ => by simp only [bindN] at b; cases b
  | _ :: _, [], _, _, _, _, _, b, _, _ => by simp only [bindN] at b; cases b
  | i :: tg, d :: ds, ws, e, e', σ, r, b, re, q => by
    simp only [RVs] at r
    obtain ⟨v, r', rfl, h1, h2⟩ := r
    simp only [bindN] at b
    refine ⟨v, r', rfl, ?_⟩
    refine gNames_ok (vs := vs) h2 b (re.set i h1) fun σ' re' hw => q σ' re' fun hi => ?_
    rw [hw fun j hj => hi j (List.mem_cons_of_mem _ hj), wipe_set (hi i List.mem_cons_self)]
theorem gT_ok {vs : List Nat} {Q : L2.St → Hp → Prop} {tg : List Nat} {sole : Bool} {d : D} {v : V} {e e' : Env} {σ : L2.St} (r : RV K H ρ d v) (b : bindT tg sole d e = some e') (re : RE K H ρ e σ)
    (q : ∀ σ', RE K H ρ e' σ' → ((∀ i ∈ tg, i ∈ vs) → L2.wipe σ' vs = L2.wipe σ vs) → Q σ' H) : gT K tg sole v σ H Q := by
  unfold bindT at b
  cases sole with
  | true =>
    simp only at b
    split at b
    · cases b
      exact q _ (re.set _ r) fun hi => wipe_set (hi _ List.mem_cons_self)
    · cases b
  | false =>
    simp only at b
    split at b
    · rename_i ds
      obtain ⟨t, ws, rfl, e2, r2⟩ := rv_tup r
      have hl : ∀ {tg : List Nat} {ds : List D} {e e' : Env}, bindN tg ds e = some e' → ds.length = tg.length := by
        intro tg
        induction tg with
        | nil => intro ds e e' b; cases ds <;> simp only [bindN] at b <;> first | rfl | cases b
        | cons i tg ih =>
          intro ds e e' b
          cases ds with
          | nil => simp only [bindN] at b; cases b
          | cons d ds => simp only [bindN] at b; rw [List.length_cons, List.length_cons, ih b]
      have g : gTup K tg.length (gNames tg) (.ref t) σ H Q := ⟨t, ws, rfl, SqT.of e2, by rw [RVs.length r2]; exact hl b, gNames_ok r2 b re q⟩
      cases tg with
      | nil => exact g
      | cons i r => cases r <;> exact g
    · cases b
end
/-! ### a comprehension -/
abbrev W0 : WX := fun _ _ _ _ => False
abbrev blkX (X : Cx) (s2 : Scope) (s : Shared) (H : Hp) (C : Addr) (cl : List (Str × Addr)) (fp : List Addr) : Cx := X.blk s H s2 (PySem.compEnvC s2 cl C X.env) fp
def TEb (X : Cx) (s2 : Scope) (e : Expr) : TE := fun σ H Q => ∀ (s : Shared) (H0 : Hp) (C : Addr) (cl : List (Str × Addr)) (fp : List Addr), TMX (blkX X s2 s H0 C cl fp) e σ H Q
theorem peb {X : Cx} {s2 : Scope} {e : Expr} (s : Shared) (H : Hp) (C : Addr) (cl : List (Str × Addr)) (fp : List Addr) : PE (blkX X s2 s H C cl fp) e (TEb X s2 e) := ⟨fun pins sh _ _ _ I h => h s H C cl fp pins sh I⟩
def TMTs (X : Cx) (ifs : List Expr) : TT := fun σ H Q => ∀ (pins : List (Addr × Obj)) (s : Shared), Inv X pins σ H s →
    wpAny (model X.prog X.w) X.A (forIn ifs true fun c r => if r = true then do let ok ← isTrue c X.env (eval c X.env); pure (ForInStep.yield ok) else pure (ForInStep.yield r)) (TP X pins σ Q) X.xe s
theorem tm_pts {X : Cx} {ifs : List Expr} {t : TT} {σ : L2.St} {H : Hp} {Q : Bool → Hp → Prop} (h : PTs X ifs t) (q : t σ H Q) : TMTs X ifs σ H Q := fun pins s I => h.run pins s σ H Q I q
def TTb (X : Cx) (s2 : Scope) (ifs : List Expr) : TT := fun σ H Q => ∀ (s : Shared) (H0 : Hp) (C : Addr) (cl : List (Str × Addr)) (fp : List Addr), TMTs (blkX X s2 s H0 C cl fp) ifs σ H Q
theorem ptb {X : Cx} {s2 : Scope} {ifs : List Expr} (s : Shared) (H : Hp) (C : Addr) (cl : List (Str × Addr)) (fp : List Addr) : PTs (blkX X s2 s H C cl fp) ifs (TTb X s2 ifs) := ⟨fun pins sh _ _ _ I h => h s H C cl fp pins sh I⟩
/-- tests, by values -/
theorem Out.bind_assoc {α β γ : Type} (o : Out α) (f : α → Store → Out β) (g : β → Store → Out γ) : (o.bind f).bind g = o.bind fun a M => (f a M).bind g := by
  cases o <;> rfl
def STs (CA : Ca) (X : Cx) (W : WX) (l : List Expr) (f : Env → Store → Out Bool) : Prop := (l = [] ∧ ∀ env M, f env M = .ok true M) ∨ ∃ e, l = [e] ∧ ST CA X W e f
section
variable {CA : Ca} {X : Cx} {W : WX} {H H' : Hp} {ρ ρ' : List Addr} {M : Store}
theorem STs.ok {l : List Expr} {f : Env → Store → Out Bool} (h : STs CA X W l f) {σ : L2.St} {env : Env} {Q : Bool → Hp → Prop} (rel : Rel CA X.K H ρ env σ M) (p : Post CA X.K W σ H ρ (f env M) (fun b _ H' _ => Q b H')) : TMTs X l σ H Q := by
  rcases h with ⟨rfl, e⟩ | ⟨e, rfl, h⟩
  · rw [e] at p
    exact tm_pts pts_nil (p.here rel.st)
  · exact tm_pts (pts_one (pt_tm X e)) (h σ H ρ env M Q rel p)
/-- what tuples and read lists are, is -/
structure Kp (H H' : Hp) : Prop where
  t : ∀ a xs, H a = some (.tup xs) → H' a = some (.tup xs)
  f : ∀ a o u, H a = some (.frz o u) → H' a = some (.frz o u)
mutual
theorem RV.keep {K : PySem.W.Frag} (k : Kp H H') (pr : ρ <+: ρ') : ∀ (d : D) (v : V), RV K H ρ d v → RV K H' ρ' d v
  | .non, v, h => by simp only [RV] at h ⊢; exact h
  | .bl b, v, h => by simp only [RV] at h ⊢; exact h
  | .int i, v, h => by simp only [RV] at h ⊢; exact h
  | .str z, v, h => by simp only [RV] at h ⊢; exact h
  | .loc n, v, h => by
    simp only [RV] at h ⊢
    obtain ⟨a, e, rfl⟩ := h
    exact ⟨a, prefix_get pr e, rfl⟩
  | .rol xs, v, h => by
    simp only [RV] at h ⊢
    obtain ⟨a, rfl, e⟩ := h
    refine ⟨a, rfl, ?_⟩
    rcases e with ⟨o, e⟩ | e
    · exact .inl ⟨o, k.f _ _ _ e⟩
    · exact .inr e
  | .tup ds, v, h => by
    simp only [RV] at h ⊢
    obtain ⟨t, vs, rfl, e, r⟩ := h
    exact ⟨t, vs, rfl, k.t _ _ e, RVs.keep k pr ds vs r⟩
  | .ktp xs, v, h => by simp only [RV] at h ⊢; exact h
theorem RVs.keep {K : PySem.W.Frag} (k : Kp H H') (pr : ρ <+: ρ') : ∀ (ds : List D) (vs : List V), RVs K H ρ ds vs → RVs K H' ρ' ds vs
  | [], vs, h => by simp only [RVs] at h ⊢; exact h
  | d :: ds, vs, h => by
    simp only [RVs] at h ⊢
    obtain ⟨v, r, rfl, h1, h2⟩ := h
    exact ⟨v, r, rfl, RV.keep k pr d v h1, RVs.keep k pr ds r h2⟩
end
theorem RO.keep {K : PySem.W.Frag} (k : Kp H H') (pr : ρ <+: ρ') {o : Ob} {h : HO} (x : RO CA K H ρ o h) : RO CA K H' ρ' o h := by
  cases o with
  | lst ds => obtain ⟨vs, e, r⟩ := x; exact ⟨vs, e, RVs.keep k pr _ _ r⟩
  | dct kvs => obtain ⟨vs, e, e2, r⟩ := x; exact ⟨vs, e, e2, RVs.keep k pr _ _ r⟩
  | dtt kvs => obtain ⟨vs, e, e2, r⟩ := x; exact ⟨vs, e, e2, RVs.keep k pr _ _ r⟩
  | ins c fs => obtain ⟨dx, vs, e, e2, r⟩ := x; exact ⟨dx, vs, e, e2, RVs.keep k pr _ _ r⟩
theorem kp_upd {D : Addr} {xs : List V} {o : HO} (h : H D = some (.lst xs)) : Kp H (upd H D o) where
  t := fun a ys e => by
    rw [upd_ne]
    · exact e
    · rintro rfl
      rw [h] at e
      cases e
  f := fun a ob u e => by
    rw [upd_ne]
    · exact e
    · rintro rfl
      rw [h] at e
      cases e
theorem RS.keep {K : PySem.W.Frag} (R : RS CA K H ρ M) {D : Addr} {xs : List V} {o : HO} (h : H D = some (.lst xs)) (n : D ∉ ρ) : RS CA K (upd H D o) ρ M := by
  refine ⟨R.len, R.nd, fun i ob e => ?_⟩
  obtain ⟨a, u, e1, e2, e3⟩ := R.at_ i ob e
  refine ⟨a, u, e1, ?_, RO.keep (kp_upd h) (List.prefix_refl _) e3⟩
  rw [upd_ne]
  · exact e2
  · rintro rfl
    exact n (List.mem_of_getElem? e1)
/-- the new list is taken up -/
theorem RS.adopt {K : PySem.W.Frag} (R : RS CA K H ρ M) {D : Addr} {xs : List V} {ds : List Dv.D} (h : H D = some (.lst xs)) (n : D ∉ ρ) (r : RVs K H ρ ds xs) : RS CA K H (ρ ++ [D]) (M ++ [.lst ds]) := by
  have kp : Kp H H := ⟨fun _ _ h => h, fun _ _ _ h => h⟩
  have pr : ρ <+: ρ ++ [D] := ⟨[D], rfl⟩
  refine ⟨by simp [R.len], ?_, fun i u e => ?_⟩
  · rw [List.nodup_append]
    refine ⟨R.nd, by simp, fun a ha b hb => ?_⟩
    have e : b = D := by simpa using hb
    rintro rfl
    exact n (e ▸ ha)
  · by_cases hn : i < M.length
    · rw [List.getElem?_append_left hn] at e
      obtain ⟨a, u, e1, e2, e3⟩ := R.at_ i u e
      exact ⟨a, u, prefix_get pr e1, e2, RO.keep kp pr e3⟩
    · have hl : i = M.length := by
        have := (List.getElem?_eq_some_iff.mp e).1
        simp at this
        omega
      subst hl
      rw [List.getElem?_append_right (Nat.le_refl _)] at e
      simp at e
      subst e
      refine ⟨D, .lst xs, ?_, h, xs, rfl, RVs.keep kp pr _ _ r⟩
      rw [← R.len, List.getElem?_append_right (Nat.le_refl _)]
      simp
/-- what is wanted, from an earlier place -/
theorem Post.nox {α β : Type} {σ : L2.St} {H1 : Hp} {ρ1 : List Addr} {o : Out α} {g : α → Store → Out β} {k : β → Store → Hp → List Addr → Prop} {k' : α → Store → Hp → List Addr → Prop} (p : Post CA X.K W σ H ρ (o.nox.bind g) k) (h : ∀ a M1 H2 ρ2, o = .ok a M1 → St8 H1 ρ1 H2 ρ2 → RS CA X.K H2 ρ2 M1 → Post CA X.K W σ H ρ (g a M1) k → k' a M1 H2 ρ2) {σ' : L2.St} : Post CA X.K W0 σ' H1 ρ1 o k' := by
  cases o with
  | ok a M1 => exact fun H2 ρ2 s R => h a M1 H2 ρ2 rfl s R p
  | exc c fs M1 => exact p.elim
  | bad => exact p.elim
theorem lc_t {elt tgx it : Expr} {ifs : List Expr} {s2 : Scope} {own : List (Str × Nat)} {tg : List Nat} {sole : Bool} {fi : Env → Store → Out Src} {fc : Env → Store → Out Bool} {fe : Env → Store → Out D} 
    (hi : SI CA X W tgx it fi) (hown : ∀ i ∈ tg, i ∈ own.map (·.2)) 
    (ht : ∀ (s : Shared) (H : Hp) (C : Addr) (cl : List (Str × Addr)) (fp : List Addr), STs CA (blkX X s2 s H C cl fp) W0 ifs fc) (he : ∀ (s : Shared) (H : Hp) (C : Addr) (cl : List (Str × Addr)) (fp : List Addr), SE CA (blkX X s2 s H C cl fp) W0 elt fe)
    (hsg : ∀ σ H, CA.sg σ H)
    {σ : L2.St} {ρ : List Addr} {env : Env} {M : Store} {Q : VK} (rel : Rel CA X.K H ρ env σ M)
    (p : Post CA X.K W σ H ρ ((fi env M).bind fun s M1 => (compL s tg sole (wipeD env (own.map (·.2))) fc fe s.items [] M1).bind fun xs M2 => lstG M2 xs) (kV' X.K Q)) :
    tLc (TMI X tgx it) (gT X.K tg sole) (TTb X s2 ifs) (TEb X s2 elt) (own.map (·.2)) σ H Q := by
  refine hi σ H ρ env M _ rel (p.bind.mono fun s M1 H1 ρ1 _ s1 R1 p1 J iok D hD => ?_)
  generalize hvs : own.map (·.2) = vs at p1 hown ⊢
  have rel1 := rel.next s1 R1
  have nD : D ∉ ρ1 := fun m => by
    obtain ⟨o, e, _⟩ := R1.obj m
    rw [hD] at e
    cases e
  refine ⟨fun i m H' => i ≤ s.items.length ∧ m = s.items.length - i ∧ ∃ ρ' M' acc accV, St8 H1 ρ1 H' ρ' ∧ RS CA X.K H' ρ' M' ∧ D ∉ ρ' ∧ H' D = some (.lst accV) ∧ RVs X.K H' ρ' acc accV ∧
    Post CA X.K W σ H1 ρ1 ((compL s tg sole (wipeD env vs) fc fe (s.items.drop i) acc M').bind fun xs M2 => lstG M2 xs) (kV' X.K Q), ⟨s.items.length, Nat.zero_le _, by simp, ρ1, M1, [], [], St8.lay hD, R1.lay hD, nD, upd_same, RVs.nil, p1⟩, ?_⟩
  rintro i m H' ⟨hi, rfl, ρ', M', acc, accV, s', R', n', eD, ra, pp⟩
  by_cases hlt : i < s.items.length
  · rw [List.drop_eq_getElem_cons hlt] at pp
    unfold compL at pp
    by_cases st : s.stands M' = true
    · rw [if_pos st] at pp
      split at pp
      · rename_i e' be
        have it := (iok i H' ρ' M' s' R' st).1 s.items[i] (List.getElem?_eq_getElem hlt)
        refine .inr ⟨it.1, fun H'' => ∃ ρ' M' acc accV, St8 H1 ρ1 H'' ρ' ∧ RS CA X.K H'' ρ' M' ∧ D ∉ ρ' ∧ H'' D = some (.lst accV) ∧ RVs X.K H'' ρ' acc accV ∧
          Post CA X.K W σ H1 ρ1 ((compL s tg sole (wipeD env vs) fc fe (s.items.drop (i + 1)) acc M').bind fun xs M2 => lstG M2 xs) (kV' X.K Q), fun H'' z => ⟨_, by omega, hlt, rfl, z⟩, fun x H'' y => ?_⟩
        obtain ⟨rfl, rx⟩ := it.2 x H'' y
        have rel' := rel1.next s' R'
        refine gT_ok (vs := vs) rx be (rel'.en.wipe vs) fun σ' re' hw => ⟨(hw hown).trans (wipe_wipe σ vs), ?_⟩
        have rb : Rel CA X.K H'' ρ' e' σ' M' := ⟨R', re', hsg _ _⟩
        rw [Out.bind_assoc] at pp
        intro z1 z2 z3 z4 z5
        refine (ht z1 z2 z3 z4 z5).ok rb (Post.nox pp fun b M2 H2 ρ2 _ s2 R2 p2 => ?_)
        have eD2 : H2 D = some (.lst accV) := s2.frm _ _ eD n'
        have n2 : D ∉ ρ2 := fun m => by
          rcases s2.new D m with z | z
          · exact n' z
          · rw [eD] at z; cases z
        have ra2 := RVs.mono R' s2 _ _ ra
        cases b with
        | false => exact ⟨ρ2, M2, acc, accV, s'.trans s2, R2, n2, eD2, ra2, p2⟩
        | true =>
          have p2 : Post CA X.K W σ H1 ρ1 (((fe e' M2).nox.bind fun d M2 => if acc.length < sizeLine then compL s tg sole (wipeD env vs) fc fe (s.items.drop (i + 1)) (acc ++ [d]) M2 else .bad).bind fun xs M2 => lstG M2 xs) (kV' X.K Q) := p2
          rw [Out.bind_assoc] at p2
          show TEb X _ elt σ' H2 _
          intro z1 z2 z3 z4 z5
          refine he z1 z2 z3 z4 z5 σ' H2 ρ2 e' M2 _ (rb.next s2 R2) (Post.nox p2 fun d M3 H3 ρ3 _ s3 R3 p3 yv ry => ?_)
          have eD3 : H3 D = some (.lst accV) := s3.frm _ _ eD2 n2
          have n3 : D ∉ ρ3 := fun m => by
            rcases s3.new D m with z | z
            · exact n2 z
            · rw [eD2] at z; cases z
          have ra3 := RVs.mono R2 s3 _ _ ra2
          by_cases hz : acc.length < sizeLine
          · rw [if_pos hz] at p3
            have kp : Kp H3 (upd H3 D (.lst (accV ++ [yv]))) := kp_upd eD3
            refine ⟨accV, eD3, by rw [RVs.length ra3]; exact hz, ρ3, M3, acc ++ [d], accV ++ [yv], ?_, RS.keep R3 eD3 n3, n3, upd_same, RVs.keep kp (List.prefix_refl _) _ _ (RVs.app ra3 (RVs.cons ry RVs.nil)), p3⟩
            have s13 := (s'.trans s2).trans s3
            have fr : ∀ a o, H1 a = some o → a ∉ ρ1 → upd H3 D (.lst (accV ++ [yv])) a = some o := fun a o h n => by
              rw [upd_ne]
              · exact s13.frm a o h n
              · rintro rfl
                rw [hD] at h
                cases h
            exact ⟨s13.pre, fr, s13.new⟩
          · rw [if_neg hz] at p3
            exact p3.elim
      · exact pp.elim
    · rw [if_neg st] at pp
      exact pp.elim
  · have e : i = s.items.length := by omega
    subst e
    rw [List.drop_length] at pp
    unfold compL at pp
    by_cases st : s.stands M' = true
    · rw [if_pos st] at pp
      refine .inl ⟨(iok s.items.length H' ρ' M' s' R' st).2 rfl, ?_⟩
      have pp : Post CA X.K W σ H1 ρ1 (lstG M' acc) (kV' X.K Q) := pp
      unfold lstG at pp
      obtain ⟨_, pp⟩ := pp.if_
      have R2 := RS.adopt R' eD n' ra
      refine pp H' (ρ' ++ [D]) ⟨s'.pre.trans ⟨[D], rfl⟩, fun a o h n => s'.frm a o h n, fun a m => ?_⟩ R2 (.ref D) ?_
      · rcases List.mem_append.mp m with m | m
        · exact s'.new a m
        · have e : a = D := by simpa using m
          exact .inr (e ▸ hD)
      · simp only [RV]
        exact ⟨D, by rw [← R'.len]; simp, rfl⟩
    · rw [if_neg st] at pp
      exact pp.elim
theorem lc_se {elt tgx it : Expr} {ifs : List Expr} {s2 : Scope} {own : List (Str × Nat)} {tg : List Nat} {sole : Bool} {fi : Env → Store → Out Src} {fc : Env → Store → Out Bool} {fe : Env → Store → Out D} {pos : Pos} (hc : X.calm = true) (nd : X.N.Nodup)
    (hi : SI CA X W tgx it fi) (ok : BlkOk X.N X.env.scope s2 own) (hown : ∀ i ∈ tg, i ∈ own.map (·.2)) (hg : ∀ (s : Shared) (H : Hp) (C : Addr) (cl : List (Str × Addr)) (fp : List Addr), PG (blkX X s2 s H C cl fp) tgx (gT X.K tg sole))
    (ht : ∀ (s : Shared) (H : Hp) (C : Addr) (cl : List (Str × Addr)) (fp : List Addr), STs CA (blkX X s2 s H C cl fp) W0 ifs fc) (he : ∀ (s : Shared) (H : Hp) (C : Addr) (cl : List (Str × Addr)) (fp : List Addr), SE CA (blkX X s2 s H C cl fp) W0 elt fe)
    (hs : ∀ x, foldedSetIterable it X.env x = pure x) (hsg : ∀ σ H, CA.sg σ H) :
    SE CA X W (.ListComp elt [⟨tgx, it, ifs, 0⟩] s2 pos) fun env M => (fi env M).bind fun s M1 => (compL s tg sole (wipeD env (own.map (·.2))) fc fe s.items [] M1).bind fun xs M2 => lstG M2 xs := by
  intro σ H ρ env M Q rel p
  exact tm_pe (pe_lc hc nd (pi_tm X tgx it) ok hg ptb peb hs) (lc_t hi hown ht he hsg rel p)
end
end Dv
end

section
set_option Elab.async false
set_option autoImplicit false
set_option linter.all false
set_option maxRecDepth 100000
set_option maxHeartbeats 4000000
/-! DvM: an expression that matches is worth what the evaluator says, all forms. -/
namespace Dv
open PySem L2
def IsB (o : Out D) : Prop := ∀ d M, o = .ok d M → ∃ b, d = .bl b
theorem IsB.ok {b : Bool} {M : Store} : IsB (.ok (.bl b) M) := fun d M' e => by cases e; exact ⟨b, rfl⟩
theorem IsB.bad : IsB .bad := fun d M' e => by cases e
theorem IsB.bind {α : Type} {o : Out α} {f : α → Store → Out D} (h : ∀ a M, IsB (f a M)) : IsB (o.bind f) := fun d M e => by
  cases o with
  | ok a M' => exact h a M' d M e
  | exc c fs M' => cases e
  | bad => cases e
theorem IsB.ite {c : Prop} [Decidable c] {a b : Out D} (ha : IsB a) (hb : IsB b) : IsB (if c then a else b) := by
  by_cases h : c
  · rw [if_pos h]; exact ha
  · rw [if_neg h]; exact hb
section
variable {CA : Ca} {X : Cx} {W : WX} {σ : L2.St} {H : Hp} {ρ : List Addr} {M : Store}
theorem Post.tb {o : Out D} {Q : Bool → Hp → Prop} (p : Post CA X.K W σ H ρ (o.bind fun x M1 => Dv.ofO (truD M1 x) M1) (fun b _ H' _ => Q b H')) (h : IsB o) : Post CA X.K W σ H ρ o (kV' X.K fun v H' => ∃ c, v = .bl c ∧ Q c H') := by
  refine p.bind.mono fun d M1 H1 ρ1 e s1 R1 p1 v hv => ?_
  obtain ⟨b, rfl⟩ := h d M1 e
  exact ⟨b, rv_bl hv, p1.here R1⟩
/-- an expression whose value and whose test are one reading -/
theorem All.two {g : Env → Store → Out D} {f : Expr → Bool} (hb : ∀ env M, IsB (g env M))
    (h : ∀ e, f e = true → ∃ t : TE, PE X e t ∧ PT X e (tB t) ∧ ∀ (σ : L2.St) (H : Hp) (ρ : List Addr) (env : Env) (M : Store) (Q : VK), Rel CA X.K H ρ env σ M → Post CA X.K W σ H ρ (g env M) (kV' X.K Q) → t σ H Q) : All CA X W (semE g) (mtE f) :=
  All.mk' (g := g) (t := fun e M => (g e M).bind fun x M1 => ofO (truD M1 x) M1) (fun e he => by
    obtain ⟨t, h1, h2, h3⟩ := h e he
    exact fun σ H ρ env M Q rel p => tm_pe h1 (h3 σ H ρ env M Q rel p)) fun e he => by
    obtain ⟨t, h1, h2, h3⟩ := h e he
    exact fun σ H ρ env M Q rel p => tm_pt h2 (h3 σ H ρ env M _ rel (p.tb (hb env M)))
theorem tm_tw {e : Expr} {σ : L2.St} {H : Hp} {Q : Bool → Hp → Prop} (h : TMW X e σ H Q) : TMT X e σ H Q := fun pins s I => h (eval e X.env) pins s I
theorem Post.cmp {o : Option Bool} {Q : VK} (p : Post CA X.K W σ H ρ ((Dv.ofO o M).bind fun c M3 => .ok (.bl c) M3) (kV' X.K Q)) (R : RS CA X.K H ρ M) : ∃ b, o = some b ∧ Q (.bl b) H := by
  obtain ⟨b, e, p1⟩ := p.bind.ofO
  exact ⟨b, e, (p1.here R).here R _ of_bl⟩
theorem lookup_rv {K : PySem.W.Frag} : ∀ {fs : List (Str × D)} {ws : List (Str × V)} {f : Str} {d : D}, ws.map (·.1) = fs.map (·.1) → RVs K H ρ (fs.map (·.2)) (ws.map (·.2)) → fs.lookup f = some d → ∃ v, ws.lookup f = some v ∧ RV K H ρ d v
  | [], ws, f, d, _, _, h => by cases h
  | (g, x) :: fs, [], f, d, h1, _, _ => by cases h1
  | (g, x) :: fs, (g', y) :: ws, f, d, h1, h2, h => by
    simp only [List.map_cons, List.cons.injEq] at h1
    obtain ⟨rfl, h1⟩ := h1
    simp only [List.map_cons, RVs] at h2
    obtain ⟨v, r, e, h2, h3⟩ := h2
    simp only [List.cons.injEq] at e
    obtain ⟨rfl, rfl⟩ := e
    rw [List.lookup_cons] at h ⊢
    split at h
    · cases h
      exact ⟨_, rfl, h2⟩
    · exact lookup_rv h1 h3 h
theorem lookup_none {fs : List (Str × D)} {ws : List (Str × V)} {f : Str} (h : ws.map (·.1) = fs.map (·.1)) (e : fs.lookup f = none) : ws.lookup f = none := by
  induction fs generalizing ws with
  | nil => cases ws with
    | nil => rfl
    | cons _ _ => cases h
  | cons a fs ih =>
    cases ws with
    | nil => cases h
    | cons b ws =>
      obtain ⟨g, x⟩ := a
      obtain ⟨g', y⟩ := b
      simp only [List.map_cons, List.cons.injEq] at h
      obtain ⟨rfl, h⟩ := h
      rw [List.lookup_cons] at e ⊢
      split at e
      · cases e
      · exact ih h e
theorem boot_biV (b : Bi) : bootBuiltins (biN b) = some (biV b) := by cases b <;> decide +kernel
theorem boot_ty (t : Ty) : bootBuiltins (tyS t) = some (.type (tyN t)) := by cases t <;> decide +kernel
theorem biN_ne (b : Bi) : biN b ≠ "__name__" ∧ (biN b == ("__debug__" : Str)) = false := by cases b <;> decide
theorem tyS_ne (b : Ty) : tyS b ≠ "__name__" ∧ (tyS b == ("__debug__" : Str)) = false := by cases b <;> decide
theorem gl_of {x : Str} (h : gloB X.env.scope x = true) : L2.Gl X x := gloB_ok h
end
/-! ### the cases -/
section
variable {CA : Ca} {X : Cx} {W : WX} {G : Gl} {cl : Cl} {B : Tb} {cu : Option (Nat × List (Str × D))}
theorem Cc.blk (c : Cc G cl cu B CA X W) (hb : B.cm = true) {s2 : Scope} (hk : s2.kind = .function) (s : Shared) (H : Hp) (C : Addr) (cs : List (Str × Addr)) (fp : List Addr) : Cc G cl cu B CA (blkX X s2 s H C cs fp) W0 where
  nd := c.nd
  tk := takes_none5
  un := c.un
  calm := c.calm
  kind := hk
  bln := c.bln
  tyn := c.tyn
  rgn := c.rgn
  isn := c.isn
  con := c.con
  fns := c.fns
  mth := c.mth
  mak := c.mak
  fld := c.fld
  sgc := c.sgc
  cuc := c.cuc
  xcl := c.xcl
  xsb := c.xsb
  xfl := c.xfl
  xc := fun k fs e => by rw [c.cuc hb] at e; cases e
theorem al_nil {sc : Scope} : All CA X W (ev G cl cu .nil) (mm B G X.N .nil sc) where
  e := fun e h => by cases h
  t := fun e h => by cases h
  a := fun es h => by
    cases es with
    | nil => exact fun σ H ρ env M Q rel p => tm_pa pa_nil (p.here rel.st [] RVs.nil)
    | cons _ _ => cases h
  bo := fun op vs h pos => by
    cases vs with
    | nil => cases h
    | cons v r => cases r <;> cases h
  p := fun o h => by
    cases o with
    | none => exact fun σ H ρ env M Q rel p => tm_po po_none (p.here rel.st)
    | some _ => cases h
  i := fun tg e h => by cases h
  c := fun l h => by
    cases l with
    | nil => exact .inl ⟨rfl, fun _ _ => rfl⟩
    | cons _ _ => cases h
  n := fun es env M ds M1 h e => by
    cases es with
    | nil => cases e; rfl
    | cons _ _ => cases h
  z := fun es h _ _ _ => rfl
theorem Out.bind_eq {α β : Type} {o : Out α} {f : α → Store → Out β} {b : β} {M : Store} (h : o.bind f = .ok b M) : ∃ a M1, o = .ok a M1 ∧ f a M1 = .ok b M := by
  cases o with
  | ok a M1 => exact ⟨a, M1, rfl, h⟩
  | exc c fs M1 => cases h
  | bad => cases h
theorem al_cons {x y : E} {sc : Scope} (hx : All CA X W (ev G cl cu x) (mm B G X.N x sc)) (hy : All CA X W (ev G cl cu y) (mm B G X.N y sc)) : All CA X W (ev G cl cu (.cons x y)) (mm B G X.N (.cons x y) sc) where
  e := fun e h => by cases h
  t := fun e h => by cases h
  a := fun es h => by
    cases es with
    | nil => cases h
    | cons e r =>
      have h : (nst e && nsl e && (mm B G X.N x sc).e e && (mm B G X.N y sc).a r) = true := h
      simp only [Bool.and_eq_true] at h
      obtain ⟨⟨⟨h1, h2⟩, h3⟩, h4⟩ := h
      intro σ H ρ env M Q rel p
      refine tm_pa (pa_cons (pe_tm X e) (pa_tm X r) (nst_ok h1 r X.env)) ?_
      refine hx.e e h3 σ H ρ env M _ rel (p.bind.mono fun d M1 H1 ρ1 _ s1 R1 p1 v hv => ?_)
      refine hy.a r h4 σ H1 ρ1 env M1 _ (rel.next s1 R1) (p1.bind.mono fun ds M2 H2 ρ2 _ s2 R2 p2 vs hvs => ?_)
      exact p2.here R2 _ (RVs.cons (RV.mono R1 s2 _ _ hv) hvs)
  bo := fun op vs h pos => by
    cases vs with
    | nil => cases h
    | cons v r => cases r <;> cases h
  p := fun o h => by cases o <;> cases h
  i := fun tg e h => by cases h
  c := fun l h => by
    cases l with
    | nil => cases h
    | cons v r => cases r <;> cases h
  n := fun es env M ds M1 h e => by
    cases es with
    | nil => cases h
    | cons e' r =>
      have h : (nst e' && nsl e' && (mm B G X.N x sc).e e' && (mm B G X.N y sc).a r) = true := h
      simp only [Bool.and_eq_true] at h
      obtain ⟨d, M2, _, e2⟩ := Out.bind_eq e
      obtain ⟨ds', M3, e3, e4⟩ := Out.bind_eq e2
      cases e4
      rw [List.length_cons, List.length_cons, hy.n r env _ _ _ h.2 e3]
  z := fun es h e => by subst e; cases h
theorem al_rng (c : Cc G cl cu B CA X W) {x : E} (hx : All CA X W (ev G cl cu x) (mm B G X.N x X.env.scope)) : All CA X W (ev G cl cu (.rng x)) (mm B G X.N (.rng x) X.env.scope) where
  e := fun e h => by cases h
  t := fun e h => by cases h
  a := fun es h => by cases h
  bo := fun op vs h pos => by
    cases vs with
    | nil => cases h
    | cons v r => cases r <;> cases h
  p := fun o h => by cases o <;> cases h
  i := fun tg e h => by
    have h : (match (generalizing := false) e with | .Call (.Name y _) as [] _ => decide (y = "range") && gloB X.env.scope y && decide (as.length = 1 ∨ as.length = 2) && nsts as && (mm B G X.N x X.env.scope).a as | _ => false) = true := h
    split at h
    · rename_i y as _ _
      simp only [Bool.and_eq_true, decide_eq_true_eq] at h
      obtain ⟨⟨⟨⟨rfl, h2⟩, h3⟩, h4⟩, h5⟩ := h
      intro σ H ρ env M R rel p
      match as, h3, h4, h5 with
      | [a], _, h4, h5 =>
        have n1 := nst_ok (Bool.and_eq_true_iff.mp (show (nst a && nsts []) = true from h4)).1 [] X.env
        refine tm_pi (pi_range1 (gl_of h2) c.rgn (pa_tm X [a]) n1) ?_
        refine hx.a [a] h5 σ H ρ env M _ rel (p.bind.mono fun ds M1 H1 ρ1 eo s1 R1 p1 vs r => ?_)
        have hl := hx.n [a] env M ds M1 h5 eo
        unfold rngOf at p1
        split at p1
        · rename_i n
          obtain ⟨v, rfl, hv⟩ := rvs1 r
          have := rv_int hv; subst this
          obtain ⟨c1, p2⟩ := p1.if_
          refine ⟨n, rfl, c1.1, c1.2, p2.here R1 _ ?_⟩
          have := itOk_rng (CA := CA) (X := X) (H0 := H1) (ρ0 := ρ1) 0 n.toNat
          simpa using this
        · simp at hl
        · exact p1.elim
      | [a, b], _, h4, h5 =>
        obtain ⟨k1, k2⟩ := Bool.and_eq_true_iff.mp (show (nst a && nsts [b]) = true from h4)
        obtain ⟨k2, k3⟩ := Bool.and_eq_true_iff.mp (show (nst b && nsts []) = true from k2)
        have n2 := nst_ok k2 [] X.env
        have n1 := nst_ok k1 [b] X.env
        rw [n2] at n1
        refine tm_pi (pi_range2 (gl_of h2) c.rgn (pa_tm X [a, b]) n1 n2) ?_
        refine hx.a [a, b] h5 σ H ρ env M _ rel (p.bind.mono fun ds M1 H1 ρ1 eo s1 R1 p1 vs r => ?_)
        have hl := hx.n [a, b] env M ds M1 h5 eo
        unfold rngOf at p1
        split at p1
        · simp at hl
        · rename_i i j
          obtain ⟨v, w, rfl, hv, hw⟩ := rvs2 r
          have := rv_int hv; subst this
          have := rv_int hw; subst this
          obtain ⟨c1, p2⟩ := p1.if_
          exact ⟨i, j, rfl, c1, p2.here R1 _ (itOk_rng i _)⟩
        · exact p1.elim
      | [], h3, _, _ => exact absurd h3 (by decide)
      | _ :: _ :: _ :: _, h3, _, _ => simp at h3
    · cases h
  c := fun l h => by
    cases l with
    | nil => cases h
    | cons v r => cases r <;> cases h
  n := fun es env M ds M1 h => by cases h
  z := fun es h => by cases h

theorem al_var {i : Nat} : All CA X W (ev G cl cu (.var i)) (mm B G X.N (.var i) X.env.scope) := by
  refine All.val fun e h => ?_
  split at h
  · rename_i y _
    simp only [Bool.and_eq_true, decide_eq_true_eq] at h
    obtain ⟨⟨h1, h2⟩, h3⟩ := h
    obtain ⟨d1, d2, _⟩ := dbgB_ok h3
    refine ⟨fun σ H ρ env M Q rel p => tm_pe (pe_var h1 (visB_ok h2) d1 d2) ?_, rfl⟩
    unfold varE at p
    split at p
    · rename_i d e
      obtain ⟨v, e1, r⟩ := rel.en.2 i d e
      exact ⟨v, e1, p.here rel.st v r⟩
    · exact p.elim
  · cases h
theorem al_non {sc : Scope} : All CA X W (ev G cl cu .non) (mm B G X.N .non sc) := by
  refine All.val fun e h => ?_
  split at h
  · exact ⟨SE.const pe_non fun _ _ => of_non, rfl⟩
  · cases h
theorem al_bl {b : Bool} {sc : Scope} : All CA X W (ev G cl cu (.bl b)) (mm B G X.N (.bl b) sc) := by
  refine All.val fun e h => ?_
  split at h
  · obtain rfl := of_decide_eq_true h
    exact ⟨SE.const pe_bl fun _ _ => of_bl, rfl⟩
  · cases h
theorem al_int {i : Int} {sc : Scope} : All CA X W (ev G cl cu (.int i)) (mm B G X.N (.int i) sc) := by
  refine All.val fun e h => ?_
  split at h
  · obtain rfl := of_decide_eq_true h
    exact ⟨SE.const pe_int fun _ _ => of_int, rfl⟩
  · cases h
theorem al_str {z : Str} {sc : Scope} : All CA X W (ev G cl cu (.str z)) (mm B G X.N (.str z) sc) := by
  refine All.val fun e h => ?_
  split at h
  · obtain rfl := of_decide_eq_true h
    exact ⟨SE.const pe_str fun _ _ => of_str, rfl⟩
  · cases h
theorem al_glb (c : Cc G cl cu B CA X W) {k : Nat} : All CA X W (ev G cl cu (.glb k)) (mm B G X.N (.glb k) X.env.scope) := by
  refine All.val fun e h => ?_
  split at h
  · rename_i y _
    simp only [Bool.and_eq_true, decide_eq_true_eq] at h
    obtain ⟨⟨rfl, h2⟩, h3⟩ := h
    obtain ⟨d1, d2, _⟩ := dbgB_ok h3
    refine ⟨fun σ H ρ env M Q rel p => ?_, rfl⟩
    obtain ⟨d, e, p1⟩ := p.ofO
    obtain ⟨v, u, e1, r1, r2⟩ := c.con k d e
    exact tm_pe (pe_glob (gl_of h2) e1 r1 d1) (p1.here rel.st v (r2 H ρ))
  · cases h
variable {a b d : E}
theorem al_bin {o : Op} (ha : All CA X W (ev G cl cu a) (mm B G X.N a X.env.scope)) (hb : All CA X W (ev G cl cu b) (mm B G X.N b X.env.scope)) : All CA X W (ev G cl cu (.bin o a b)) (mm B G X.N (.bin o a b) X.env.scope) := by
  refine All.val fun e h => ?_
  split at h
  · rename_i l op r _
    simp only [Bool.and_eq_true, decide_eq_true_eq] at h
    obtain ⟨⟨rfl, h2⟩, h3⟩ := h
    refine ⟨fun σ H ρ env M Q rel p => tm_pe (pe_op (op_tm X _) (pe_tm X l) (pe_tm X r)) ?_, rfl⟩
    exact SE.two (ha.e l h2) (hb.e r h3) (g := fun x y M2 => binE o M2 x y) rel p fun x y M2 H2 ρ2 v w s2 R2 hv hw p2 => binE_ok o R2 hv hw p2
  · cases h
theorem al_neg (ha : All CA X W (ev G cl cu a) (mm B G X.N a X.env.scope)) : All CA X W (ev G cl cu (.neg a)) (mm B G X.N (.neg a) X.env.scope) := by
  refine All.val fun e h => ?_
  split at h
  · rename_i l _
    refine ⟨fun σ H ρ env M Q rel p => tm_pe (pe_un un_neg (pe_tm X l)) ?_, rfl⟩
    refine ha.e l h σ H ρ env M _ rel (p.bind.mono fun x M1 H1 ρ1 _ s1 R1 p1 v hv => ?_)
    unfold negE at p1
    split at p1
    · exact ⟨_, rv_int hv, p1.here R1 _ of_int⟩
    · exact p1.elim
  · cases h
theorem al_cmp (c : Cc G cl cu B CA X W) {o : Co} (ha : All CA X W (ev G cl cu a) (mm B G X.N a X.env.scope)) (hb : All CA X W (ev G cl cu b) (mm B G X.N b X.env.scope)) : All CA X W (ev G cl cu (.cmp o a b)) (mm B G X.N (.cmp o a b) X.env.scope) := by
  refine All.two (fun env M => IsB.bind fun x M1 => IsB.bind fun y M2 => IsB.bind fun c M3 => IsB.ok) fun e h => ?_
  split at h
  · rename_i l op r _
    simp only [Bool.and_eq_true, decide_eq_true_eq, Bool.not_eq_true'] at h
    obtain ⟨⟨⟨rfl, h2⟩, h3⟩, h4⟩ := h
    refine ⟨_, pe_cmp (pc_op (op_tm X _) (pe_tm X l) (pe_tm X r)) h4, pt_cmp (pc_op (op_tm X _) (pe_tm X l) (pe_tm X r)) h4, fun σ H ρ env M Q rel p => ?_⟩
    exact SE.two (ha.e l h2) (hb.e r h3) (g := fun x y M2 => (ofO (cmpE o M2 x y) M2).bind fun c M3 => .ok (.bl c) M3) rel p fun x y M2 H2 ρ2 v w s2 R2 hv hw p2 => by
      obtain ⟨k, e, q⟩ := p2.cmp R2
      exact cmpE_ok o (by have := c.un; omega) R2 hv hw e q
  · cases h
theorem al_chn (c : Cc G cl cu B CA X W) {o o' : Co} (ha : All CA X W (ev G cl cu a) (mm B G X.N a X.env.scope)) (hb : All CA X W (ev G cl cu b) (mm B G X.N b X.env.scope)) (hd : All CA X W (ev G cl cu d) (mm B G X.N d X.env.scope)) :
    All CA X W (ev G cl cu (.chn o o' a b d)) (mm B G X.N (.chn o o' a b d) X.env.scope) := by
  refine All.two (fun env M => IsB.bind fun x M1 => IsB.bind fun y M2 => IsB.bind fun c M3 => IsB.ite (IsB.bind fun z M4 => IsB.bind fun c M5 => IsB.ok) IsB.ok) fun e h => ?_
  split at h
  · rename_i l op op' r z _
    simp only [Bool.and_eq_true, decide_eq_true_eq, Bool.not_eq_true'] at h
    obtain ⟨⟨⟨⟨⟨rfl, rfl⟩, h2⟩, h3⟩, h4⟩, h5⟩ := h
    have un : X.A.units + 65 < cLine := by have := c.un; omega
    refine ⟨_, pe_chain (op_tm X _) (op_tm X _) (pe_tm X l) (pe_tm X r) (pe_tm X z) h5, pt_chain (op_tm X _) (op_tm X _) (pe_tm X l) (pe_tm X r) (pe_tm X z) h5, fun σ H ρ env M Q rel p => ?_⟩
    refine ha.e l h2 σ H ρ env M _ rel (p.bind.mono fun x M1 H1 ρ1 _ s1 R1 p1 v hv => ?_)
    refine hb.e r h3 σ H1 ρ1 env M1 _ (rel.next s1 R1) (p1.bind.mono fun y M2 H2 ρ2 _ s2 R2 p2 w hw => ?_)
    obtain ⟨k, e, p3⟩ := p2.bind.ofO
    have p3 := p3.here R2
    refine cmpE_ok o un R2 (RV.mono R1 s2 _ _ hv) hw e ⟨k, rfl, ?_⟩
    cases k with
    | false => exact p3.here R2 _ of_bl
    | true =>
      refine hd.e z h4 σ H2 ρ2 env M2 _ ((rel.next s1 R1).next s2 R2) (p3.bind.mono fun z M4 H4 ρ4 _ s4 R4 p4 u hu => ?_)
      obtain ⟨k, e, q⟩ := p4.cmp R4
      exact cmpE_ok o' un R4 (RV.mono R2 s4 _ _ hw) hu e q
  · cases h
theorem al_ch3 (c : Cc G cl cu B CA X W) {f : E} {o o' o2 : Co} (ha : All CA X W (ev G cl cu a) (mm B G X.N a X.env.scope)) (hb : All CA X W (ev G cl cu b) (mm B G X.N b X.env.scope)) (hd : All CA X W (ev G cl cu d) (mm B G X.N d X.env.scope)) (hf : All CA X W (ev G cl cu f) (mm B G X.N f X.env.scope)) :
    All CA X W (ev G cl cu (.ch3 o o' o2 a b d f)) (mm B G X.N (.ch3 o o' o2 a b d f) X.env.scope) := by
  refine All.two (fun env M => IsB.bind fun x M1 => IsB.bind fun y M2 => IsB.bind fun c M3 => IsB.ite (IsB.bind fun z M4 => IsB.bind fun c M5 => IsB.ite (IsB.bind fun z M4 => IsB.bind fun c M5 => IsB.ok) IsB.ok) IsB.ok) fun e h => ?_
  split at h
  · rename_i l op op' op2 r z z2 _
    simp only [Bool.and_eq_true, decide_eq_true_eq, Bool.not_eq_true'] at h
    obtain ⟨⟨⟨⟨⟨⟨⟨rfl, rfl⟩, rfl⟩, h2⟩, h3⟩, h4⟩, h6⟩, h5⟩ := h
    have un : X.A.units + 65 < cLine := by have := c.un; omega
    refine ⟨_, pe_chain3 (op_tm X _) (op_tm X _) (op_tm X _) (pe_tm X l) (pe_tm X r) (pe_tm X z) (pe_tm X z2) h5, pt_chain3 (op_tm X _) (op_tm X _) (op_tm X _) (pe_tm X l) (pe_tm X r) (pe_tm X z) (pe_tm X z2) h5, fun σ H ρ env M Q rel p => ?_⟩
    refine ha.e l h2 σ H ρ env M _ rel (p.bind.mono fun x M1 H1 ρ1 _ s1 R1 p1 v hv => ?_)
    refine hb.e r h3 σ H1 ρ1 env M1 _ (rel.next s1 R1) (p1.bind.mono fun y M2 H2 ρ2 _ s2 R2 p2 w hw => ?_)
    obtain ⟨k, e, p3⟩ := p2.bind.ofO
    have p3 := p3.here R2
    refine cmpE_ok o un R2 (RV.mono R1 s2 _ _ hv) hw e ⟨k, rfl, ?_⟩
    cases k with
    | false => exact p3.here R2 _ of_bl
    | true =>
      refine hd.e z h4 σ H2 ρ2 env M2 _ ((rel.next s1 R1).next s2 R2) (p3.bind.mono fun z M4 H4 ρ4 _ s4 R4 p4 u hu => ?_)
      obtain ⟨k, e, p5⟩ := p4.bind.ofO
      have p5 := p5.here R4
      refine cmpE_ok o' un R4 (RV.mono R2 s4 _ _ hw) hu e ⟨k, rfl, ?_⟩
      cases k with
      | false => exact p5.here R4 _ of_bl
      | true =>
        refine hf.e z2 h6 σ H4 ρ4 env M4 _ (((rel.next s1 R1).next s2 R2).next s4 R4) (p5.bind.mono fun z M6 H6 ρ6 _ s6 R6 p6 u' hu' => ?_)
        obtain ⟨k, e, q⟩ := p6.cmp R6
        exact cmpE_ok o2 un R6 (RV.mono R4 s6 _ _ hu) hu' e q
  · cases h
/-- and, or: from the row of their parts -/
theorem All.bool {op : BoolOp} {f : Env → Store → Out D} {t : Env → Store → Out Bool} {ma : Expr → Bool} {mb : BoolOp → List Expr → Bool}
    (h : ∀ v w r pos, ma v = true → mb op (w :: r) = true → SE CA X W (.BoolOp op (v :: w :: r) pos) f ∧ SW CA X W (.BoolOp op (v :: w :: r) pos) t) : All CA X W (semT f t) (mtB op ma mb) := by
  have g : ∀ e, (mtB op ma mb).e e = true → SE CA X W e f ∧ ST CA X W e t := fun e he => by
    have he : (match (generalizing := false) e with | .BoolOp o vs _ => decide (o = op) && (match (generalizing := false) vs with | v :: w :: r => ma v && mb op (w :: r) | _ => false) | _ => false) = true := he
    split at he
    · rename_i o vs pos _
      obtain ⟨e1, e2⟩ := Bool.and_eq_true_iff.mp he
      obtain rfl := of_decide_eq_true e1
      split at e2
      · rename_i v w r _
        obtain ⟨e3, e4⟩ := Bool.and_eq_true_iff.mp e2
        obtain ⟨a1, a2⟩ := h v w r pos e3 e4
        exact ⟨a1, fun σ H ρ env M Q rel p => tm_tw (a2 σ H ρ env M Q rel p)⟩
      · cases e2
    · cases he
  have A : All CA X W (semT f t) (mtE (mtB op ma mb).e) := All.mk' (fun e he => (g e he).1) fun e he => (g e he).2
  refine ⟨A.e, A.t, A.a, fun o vs he pos => ?_, A.p, A.i, A.c, A.n, A.z⟩
  match vs, he with
  | [], he =>
    have he : (decide (o = op) && false) = true := he
    simp at he
  | [x], he => exact ⟨(g x he).1.bo1 o pos, (g x he).2.bo1 o pos⟩
  | v :: w :: r, he =>
    obtain ⟨e1, e2⟩ := Bool.and_eq_true_iff.mp (show (decide (o = op) && (ma v && mb op (w :: r))) = true from he)
    obtain rfl := of_decide_eq_true e1
    obtain ⟨e3, e4⟩ := Bool.and_eq_true_iff.mp e2
    exact h v w r pos e3 e4
theorem al_and (ha : All CA X W (ev G cl cu a) (mm B G X.N a X.env.scope)) (hb : All CA X W (ev G cl cu b) (mm B G X.N b X.env.scope)) : All CA X W (ev G cl cu (.and a b)) (mm B G X.N (.and a b) X.env.scope) := by
  refine All.bool fun v w r pos h1 h2 => ⟨fun σ H ρ env M Q rel p => tm_pe (pe_and (pe_tm X v) (pe_tm X (.BoolOp .And (w :: r) pos))) ?_, fun σ H ρ env M Q rel p => tm_pw (pw_and (pt_tm X v) (pw_tm X (.BoolOp .And (w :: r) pos))) ?_⟩
  · refine ha.e v h1 σ H ρ env M _ rel (p.bind.mono fun x M1 H1 ρ1 _ s1 R1 p1 z hz => ?_)
    unfold andE at p1
    split at p1
    · exact ⟨true, rv_bl hz, (hb.bo .And (w :: r) h2 pos).1 σ H1 ρ1 env M1 Q (rel.next s1 R1) p1⟩
    · exact ⟨false, rv_bl hz, p1.here R1 _ of_bl⟩
    · exact p1.elim
  · refine ha.t v h1 σ H ρ env M _ rel (p.bind.mono fun x M1 H1 ρ1 _ s1 R1 p1 => ?_)
    cases x with
    | true => exact (hb.bo .And (w :: r) h2 pos).2 σ H1 ρ1 env M1 Q (rel.next s1 R1) p1
    | false => exact p1.here R1
theorem al_or (ha : All CA X W (ev G cl cu a) (mm B G X.N a X.env.scope)) (hb : All CA X W (ev G cl cu b) (mm B G X.N b X.env.scope)) : All CA X W (ev G cl cu (.or a b)) (mm B G X.N (.or a b) X.env.scope) := by
  refine All.bool fun v w r pos h1 h2 => ⟨fun σ H ρ env M Q rel p => tm_pe (pe_or (pe_tm X v) (pe_tm X (.BoolOp .Or (w :: r) pos))) ?_, fun σ H ρ env M Q rel p => tm_pw (pw_or (pt_tm X v) (pw_tm X (.BoolOp .Or (w :: r) pos))) ?_⟩
  · refine ha.e v h1 σ H ρ env M _ rel (p.bind.mono fun x M1 H1 ρ1 _ s1 R1 p1 z hz => ?_)
    unfold orE at p1
    split at p1
    · exact ⟨false, rv_bl hz, (hb.bo .Or (w :: r) h2 pos).1 σ H1 ρ1 env M1 Q (rel.next s1 R1) p1⟩
    · exact ⟨true, rv_bl hz, p1.here R1 _ of_bl⟩
    · exact p1.elim
  · refine ha.t v h1 σ H ρ env M _ rel (p.bind.mono fun x M1 H1 ρ1 _ s1 R1 p1 => ?_)
    cases x with
    | false => exact (hb.bo .Or (w :: r) h2 pos).2 σ H1 ρ1 env M1 Q (rel.next s1 R1) p1
    | true => exact p1.here R1
theorem al_not (ha : All CA X W (ev G cl cu a) (mm B G X.N a X.env.scope)) : All CA X W (ev G cl cu (.not a)) (mm B G X.N (.not a) X.env.scope) := by
  refine All.mk' (fun e h => ?_) fun e h => ?_
  · split at h
    · rename_i l _
      refine fun σ H ρ env M Q rel p => tm_pe (pe_notT (pe_tm X l)) ?_
      refine ha.e l h σ H ρ env M _ rel (p.bind.mono fun x M1 H1 ρ1 _ s1 R1 p1 v hv => ?_)
      obtain ⟨k, e, p2⟩ := p1.bind.ofO
      exact ⟨k, truD_ok R1 hv e, (p2.here R1).here R1 _ of_bl⟩
    · cases h
  · split at h
    · rename_i l _
      refine fun σ H ρ env M Q rel p => tm_pt (pt_not (pt_tm X l)) ?_
      exact ha.t l h σ H ρ env M _ rel (p.bind.mono fun x M1 H1 ρ1 _ s1 R1 p1 => p1.here R1)
    · cases h
theorem al_idx (c : Cc G cl cu B CA X W) (ha : All CA X W (ev G cl cu a) (mm B G X.N a X.env.scope)) (hb : All CA X W (ev G cl cu b) (mm B G X.N b X.env.scope)) : All CA X W (ev G cl cu (.idx a b)) (mm B G X.N (.idx a b) X.env.scope) := by
  refine All.val fun e h => ?_
  split at h
  · rename_i l r _
    simp only [Bool.and_eq_true] at h
    obtain ⟨⟨h1, h2⟩, h3⟩ := h
    refine ⟨fun σ H ρ env M Q rel p => tm_pe (pe_ixm (pe_tm X l) (pe_tm X r)) ?_, rfl⟩
    refine SE.two (ha.e l h1) (hb.e r h2) (g := fun x y M2 => ofO (idxE M2 x y) M2) rel p fun x y M2 H2 ρ2 v w s2 R2 hv hw p2 => ?_
    obtain ⟨k, e, q⟩ := p2.ofO
    exact idxE_ok (nsl_ok h3) (by have := c.un; omega) R2 hv hw e fun z hz => q.here R2 z hz
  · cases h
theorem al_slc (ha : All CA X W (ev G cl cu a) (mm B G X.N a X.env.scope)) (hb : All CA X W (ev G cl cu b) (mm B G X.N b X.env.scope)) (hd : All CA X W (ev G cl cu d) (mm B G X.N d X.env.scope)) : All CA X W (ev G cl cu (.slc a b d)) (mm B G X.N (.slc a b d) X.env.scope) := by
  refine All.val fun e h => ?_
  split at h
  · rename_i l p q _ _
    simp only [Bool.and_eq_true] at h
    obtain ⟨⟨h1, h2⟩, h3⟩ := h
    refine ⟨fun σ H ρ env M Q rel p' => tm_pe (pe_slice sl_tm (pe_tm X l) (po_tm X p) (po_tm X q)) ?_, rfl⟩
    refine ha.e l h1 σ H ρ env M _ rel (p'.bind.mono fun x M1 H1 ρ1 _ s1 R1 p1 v hv => ?_)
    refine hb.p p h2 σ H1 ρ1 env M1 _ (rel.next s1 R1) (p1.bind.mono fun lo M2 H2 ρ2 _ s2 R2 p2 => ?_)
    refine hd.p q h3 σ H2 ρ2 env M2 _ ((rel.next s1 R1).next s2 R2) (p2.bind.mono fun hi M3 H3 ρ3 _ s3 R3 p3 => ?_)
    exact slcE_ok R3 (RV.mono R2 s3 _ _ (RV.mono R1 s2 _ _ hv)) p3
  · cases h
theorem al_ife (ha : All CA X W (ev G cl cu a) (mm B G X.N a X.env.scope)) (hb : All CA X W (ev G cl cu b) (mm B G X.N b X.env.scope)) (hd : All CA X W (ev G cl cu d) (mm B G X.N d X.env.scope)) : All CA X W (ev G cl cu (.ife a b d)) (mm B G X.N (.ife a b d) X.env.scope) := by
  refine All.mk' (fun e h => ?_) fun e h => ?_
  · split at h
    · rename_i t l r _
      simp only [Bool.and_eq_true] at h
      obtain ⟨⟨h1, h2⟩, h3⟩ := h
      refine fun σ H ρ env M Q rel p => tm_pe (pe_ifExp (pt_tm X t) (pe_tm X l) (pe_tm X r)) ?_
      refine ha.t t h1 σ H ρ env M _ rel (p.bind.mono fun x M1 H1 ρ1 _ s1 R1 p1 => ?_)
      cases x with
      | true => exact hb.e l h2 σ H1 ρ1 env M1 Q (rel.next s1 R1) p1
      | false => exact hd.e r h3 σ H1 ρ1 env M1 Q (rel.next s1 R1) p1
    · cases h
  · split at h
    · rename_i t l r _
      simp only [Bool.and_eq_true] at h
      obtain ⟨⟨h1, h2⟩, h3⟩ := h
      intro σ H ρ env M Q rel p pins s I
      refine PyProof.Rows.isTrue_IfExp (thn (ha.t t h1 σ H ρ env M (fun c H1 => if c = true then TMT X l σ H1 Q else TMT X r σ H1 Q) rel (p.bind.mono fun x M1 H1 ρ1 _ s1 R1 p1 => ?_) pins s I) fun c s1 ⟨H1, I1, q1⟩ => ?_)
      · cases x with
        | true => exact hb.t l h2 σ H1 ρ1 env M1 Q (rel.next s1 R1) p1
        | false => exact hd.t r h3 σ H1 ρ1 env M1 Q (rel.next s1 R1) p1
      · cases c with
        | true => exact q1 pins s1 I1
        | false => exact q1 pins s1 I1
    · cases h
theorem al_tup (ha : All CA X W (ev G cl cu a) (mm B G X.N a X.env.scope)) : All CA X W (ev G cl cu (.tup a)) (mm B G X.N (.tup a) X.env.scope) := by
  refine All.val fun e h => ?_
  split at h
  · rename_i l _ _
    simp only [Bool.and_eq_true] at h
    refine ⟨fun σ H ρ env M Q rel p => tm_pe (pe_tup (pa_tm X l)) ?_, rfl⟩
    refine ha.a l h.1 σ H ρ env M _ rel (p.bind.mono fun ds M1 H1 ρ1 _ s1 R1 p1 vs r => ?_)
    obtain ⟨c, p2⟩ := p1.if_
    exact ⟨by rw [RVs.length r]; exact c, fun q hq => p2.tup R1 r q hq⟩
  · cases h
theorem al_lst (ha : All CA X W (ev G cl cu a) (mm B G X.N a X.env.scope)) : All CA X W (ev G cl cu (.lst a)) (mm B G X.N (.lst a) X.env.scope) := by
  refine All.val fun e h => ?_
  split at h
  · rename_i l _
    simp only [Bool.and_eq_true] at h
    refine ⟨fun σ H ρ env M Q rel p => tm_pe (pe_lst (pa_tm X l)) ?_, rfl⟩
    refine ha.a l h.1 σ H ρ env M _ rel (p.bind.mono fun ds M1 H1 ρ1 _ s1 R1 p1 vs r => ?_)
    unfold lstG at p1
    obtain ⟨c, p2⟩ := p1.if_
    exact ⟨by rw [RVs.length r]; exact c, fun q hq => p2.mk R1 ⟨vs, rfl, r⟩ q hq⟩
  · cases h
theorem al_dnl {tk : Bool} {sc : Scope} : All CA X W (ev G cl cu (.dnl tk)) (mm B G X.N (.dnl tk) sc) := by
  refine All.val fun e h => ?_
  split at h
  · cases tk with
    | true => exact ⟨fun σ H ρ env M Q rel p => tm_pe pe_dnewT fun q hq => Post.mk p rel.st ⟨[], rfl, rfl, RVs.nil⟩ q hq, rfl⟩
    | false => exact ⟨fun σ H ρ env M Q rel p => tm_pe pe_dnewK fun q hq => Post.mk p rel.st ⟨[], rfl, rfl, RVs.nil⟩ q hq, rfl⟩
  · cases h
theorem al_fld (c : Cc G cl cu B CA X W) {f : Str} (ha : All CA X W (ev G cl cu a) (mm B G X.N a X.env.scope)) : All CA X W (ev G cl cu (.fld a f)) (mm B G X.N (.fld a f) X.env.scope) := by
  refine All.val fun e h => ?_
  split at h
  · rename_i l g _
    simp only [Bool.and_eq_true, decide_eq_true_eq] at h
    obtain ⟨⟨rfl, h2⟩, h3⟩ := h
    refine ⟨fun σ H ρ env M Q rel p => tm_pe (pe_fld (pe_tm X l) (nsup_ok h3 _ X.env)) ?_, rfl⟩
    refine ha.e l h2 σ H ρ env M _ rel (p.bind.mono fun x M1 H1 ρ1 _ s1 R1 p1 v hv => ?_)
    unfold fldE at p1
    split at p1
    · split at p1
      · rename_i C fs q
        obtain ⟨fk, p2⟩ := p1.if_
        obtain ⟨y, e, p3⟩ := p2.ofO
        obtain ⟨k1, k2⟩ := c.fld C f fk
        obtain ⟨ad, u, rfl, _, e2, dx, ws, rfl, e3, e4⟩ := rv_obj R1 hv q
        obtain ⟨w, e5, e6⟩ := lookup_rv e3 e4 e
        exact ⟨ad, CA C, dx, ws, w, rfl, e2, k1, k2, e5, p3.here R1 w e6⟩
      · exact p1.elim
    · exact p1.elim
  · cases h
theorem Room.dn {k : Nat} {A : Around} (r : Room (k + 1) A) : Room k A := ⟨r.hd, by have := r.dp; omega, by have := r.un; omega⟩
theorem al_cal (c : Cc G cl cu B CA X W) {f : Nat} (ha : All CA X W (ev G cl cu a) (mm B G X.N a X.env.scope)) : All CA X W (ev G cl cu (.cal f a)) (mm B G X.N (.cal f a) X.env.scope) := by
  refine All.val fun e h => ?_
  split at h
  · rename_i y _ as _
    simp only [Bool.and_eq_true, decide_eq_true_eq] at h
    obtain ⟨⟨⟨⟨⟨⟨hcm, h0⟩, rfl⟩, h2⟩, h3⟩, h4⟩, h5⟩ := h
    obtain ⟨d1, d2, _⟩ := dbgB_ok h3
    obtain ⟨ad, m1, m2, fd, ps, k, F, hr, hb⟩ := c.fns hcm f h0
    refine ⟨fun σ H ρ env M Q rel p => ?_, rfl⟩
    cases as with
    | nil =>
      have p : Post CA X.K W σ H ρ (((ev G cl cu a).a env M).bind fun vs M1 => cl f vs M1) (kV' X.K Q) := p
      rw [ha.z [] h5 rfl] at p
      exact tm_pe (pe_callS0 (E := WE W) F (Room.dn hr) (gl_of h2) m1 m2 hb (passAt c.tk) d1) ⟨[], M, ρ, rel.st, RVs.nil, Post.toC p⟩
    | cons x r =>
      obtain ⟨n1, n2⟩ := Bool.and_eq_true_iff.mp (show (nst x && nsts r) = true from h4)
      exact tm_pe (pe_callS (E := WE W) F (Room.dn hr) (gl_of h2) m1 m2 hb (passAt c.tk) (pa_tm X (x :: r)) d1 (nst_ok n1 r X.env) (plain_ok n2 _ X.env))
        (ha.a (x :: r) h5 σ H ρ env M _ rel (p.bind.mono fun ds M1 H1 ρ1 _ s1 R1 p1 vs r => ⟨ds, M1, ρ1, R1, r, p1.toC⟩))
  · cases h
/-- a new object and its maker -/
theorem mak_ok {c : Nat} {g : Nat} {σ : L2.St} {H : Hp} {ρ : List Addr} {M : Store} {ds : List D} {vs : List V} {Q : VK} (hg : G.ini c = some g) (R : RS CA X.K H ρ M) (r : RVs X.K H ρ ds vs) (p : Post CA X.K W σ H ρ (makE G cl c ds M) (kV' X.K Q)) :
    ∀ x dx, H x = none → H dx = none → dx ≠ x → spC CA X.K cl g (.ref x :: vs) (upd (upd H dx (.own x)) x (.ins (CA c) dx [])) (fun v H2 => v = .non ∧ Q (.ref x) H2) (WE W σ) := by
  intro x dx hx hdx hne
  unfold makE at p
  rw [hg] at p
  have hx' : upd H dx (.own x) x = none := by rw [upd_ne (Ne.symm hne)]; exact hx
  have s1 : St8 H ρ (upd H dx (.own x)) ρ := St8.lay hdx
  have R1 : RS CA X.K (upd H dx (.own x)) ρ M := R.lay hdx
  have s2 := s1.trans (St8.push (o := .ins (CA c) dx []) (ρ := ρ) hx')
  have R2 := R1.push (o := .ins (CA c) dx []) (ob := .ins c []) hx' ⟨dx, [], rfl, rfl, RVs.nil⟩
  have lx : (ρ ++ [x])[M.length]? = some x := by rw [← R.len]; simp
  refine ⟨.loc M.length :: ds, M ++ [.ins c []], ρ ++ [x], R2, RVs.cons ⟨x, lx, rfl⟩ (RVs.mono R s2 _ _ r), ?_⟩
  refine Post.toC (W := W) ((p.step s2).bind.mono fun d M3 H3 ρ3 _ s3 R3 p3 v hv => ?_)
  split at p3
  · exact ⟨rv_non hv, p3.here R3 (.ref x) ⟨x, prefix_get s3.pre lx, rfl⟩⟩
  · exact p3.elim
theorem al_mak (c : Cc G cl cu B CA X W) {k : Nat} (ha : All CA X W (ev G cl cu a) (mm B G X.N a X.env.scope)) : All CA X W (ev G cl cu (.mak k a)) (mm B G X.N (.mak k a) X.env.scope) := by
  refine All.val fun e h => ?_
  split at h
  · rename_i y _ as _
    simp only [Bool.and_eq_true, decide_eq_true_eq] at h
    obtain ⟨⟨⟨⟨⟨⟨hcm, hk⟩, rfl⟩, h2⟩, h3⟩, h4⟩, h5⟩ := h
    obtain ⟨d1, d2, _⟩ := dbgB_ok h3
    obtain ⟨g, hg⟩ := Option.isSome_iff_exists.mp hk
    obtain ⟨ad, m1, mk, fd, ps, kk, F, hr, hb⟩ := c.mak hcm k g hg
    refine ⟨fun σ H ρ env M Q rel p => ?_, rfl⟩
    cases as with
    | nil =>
      have p : Post CA X.K W σ H ρ (((ev G cl cu a).a env M).bind fun vs M1 => makE G cl k vs M1) (kV' X.K Q) := p
      rw [ha.z [] h5 rfl] at p
      exact tm_pe (pe_makeS0 (E := WE W) mk F hr (gl_of h2) m1 hb (passAt c.tk) d1) (mak_ok hg rel.st RVs.nil p)
    | cons x r =>
      exact tm_pe (pe_makeS (E := WE W) mk F hr (gl_of h2) m1 hb (passAt c.tk) (pa_tm X (x :: r)) d1 h4)
        (ha.a (x :: r) h5 σ H ρ env M _ rel (p.bind.mono fun ds M1 H1 ρ1 _ s1 R1 p1 vs r => mak_ok hg R1 r p1))
  · cases h
/-- what no one waits for -/
theorem Post.any {σ : L2.St} {H : Hp} {ρ : List Addr} {α : Type} {o : Out α} {k k' : α → Store → Hp → List Addr → Prop} (p : Post CA X.K W σ H ρ o k) (h : ∀ a M, o ≠ .ok a M) : Post CA X.K W σ H ρ o k' := by
  cases o with
  | ok a M => exact absurd rfl (h a M)
  | exc c fs M => exact p
  | bad => exact p
theorem al_mth (c : Cc G cl cu B CA X W) {m : Nat} (ha : All CA X W (ev G cl cu a) (mm B G X.N a X.env.scope)) (hb : All CA X W (ev G cl cu b) (mm B G X.N b X.env.scope)) : All CA X W (ev G cl cu (.mth a m b)) (mm B G X.N (.mth a m b) X.env.scope) := by
  refine All.val fun e h => ?_
  split at h
  · rename_i l g ap as pos
    simp only [Bool.and_eq_true, decide_eq_true_eq] at h
    obtain ⟨⟨⟨⟨⟨⟨⟨hcm, rfl⟩, h1⟩, h2⟩, h3⟩, h4⟩, h5⟩, h6⟩ := h
    refine ⟨fun σ H ρ env M Q rel p => ?_, rfl⟩
    replace p : Post CA X.K W σ H ρ (((ev G cl cu a).e env M).bind fun x M1 => match mthE G M1 x m with
      | some g => ((ev G cl cu b).a env M1).bind fun vs M2 => cl g (x :: vs) M2
      | none => .bad) (kV' X.K Q) := p
    have stuck : (∀ d M1, (ev G cl cu a).e env M ≠ .ok d M1) → TMX X (.Call (.Attribute l (G.mn m) ap) as [] pos) σ H Q := fun no pins s I => by
      rw [meth_eq h2 h4 h5 h3]
      have q := ha.e l h1 σ H ρ env M (fun _ _ => False) rel (p.bind.any no)
      exact wpAny_bind (thn (q pins s I) fun u s1 ⟨_, _, _, _, z⟩ => z.elim)
    cases ho : (ev G cl cu a).e env M with
    | bad => exact stuck fun d M1 => by rw [ho]; exact fun z => by cases z
    | exc k fs M1 => exact stuck fun d M1 => by rw [ho]; exact fun z => by cases z
    | ok d M1 =>
      rw [ho] at p
      cases hm : mthE G M1 d m with
      | none =>
        replace p : Post CA X.K W σ H ρ (match mthE G M1 d m with
          | some g => ((ev G cl cu b).a env M1).bind fun vs M2 => cl g (d :: vs) M2
          | none => .bad) (kV' X.K Q) := p
        rw [hm] at p
        exact p.elim
      | some f =>
        replace p : Post CA X.K W σ H ρ (match mthE G M1 d m with
          | some g => ((ev G cl cu b).a env M1).bind fun vs M2 => cl g (d :: vs) M2
          | none => .bad) (kV' X.K Q) := p
        rw [hm] at p
        replace p : Post CA X.K W σ H ρ (((ev G cl cu b).a env M1).bind fun vs M2 => cl f (d :: vs) M2) (kV' X.K Q) := p
        unfold mthE at hm
        split at hm
        · rename_i n
          split at hm
          · rename_i C fs q
            split at hm
            · rename_i hl
              obtain ⟨ad, cls, mt, fd, ps, k, F, hr, hbd⟩ := c.mth hcm C m f hm
              have obj : ∀ H1 ρ1 v, RS CA X.K H1 ρ1 M1 → RV X.K H1 ρ1 (.loc n) v → ∃ a dx ws, v = .ref a ∧ H1 a = some (.ins (CA C) dx ws) ∧ ws.lookup (G.mn m) = none := fun H1 ρ1 v R1 hv => by
                obtain ⟨a, u, rfl, _, e2, dx, ws, rfl, e3, e4⟩ := rv_obj R1 hv q
                exact ⟨a, dx, ws, rfl, e2, lookup_none e3 (Option.isNone_iff_eq_none.mp hl)⟩
              have start : ∀ K' : VK, (∀ H1 ρ1 v, St8 H ρ H1 ρ1 → RS CA X.K H1 ρ1 M1 → RV X.K H1 ρ1 (.loc n) v → K' v H1) → TMX X l σ H K' := fun K' hK =>
                ha.e l h1 σ H ρ env M K' rel (by rw [ho]; exact fun H1 ρ1 s1 R1 v hv => hK H1 ρ1 v s1 R1 hv)
              cases as with
              | nil =>
                rw [hb.z [] h6 rfl] at p
                refine tm_pe (pe_methS0 (E := WE W) (pe_tm X l) cls mt F (Room.dn hr) hbd (passAt c.tk) h2 h3) (start _ fun H1 ρ1 v s1 R1 hv => ?_)
                obtain ⟨a, dx, ws, rfl, e2, e3⟩ := obj H1 ρ1 v R1 hv
                exact ⟨a, dx, ws, rfl, e2, e3, [.loc n], M1, ρ1, R1, RVs.cons hv RVs.nil, Post.toC (p.step s1)⟩
              | cons x r =>
                refine tm_pe (pe_methS (E := WE W) (pe_tm X l) cls mt F (Room.dn hr) hbd (passAt c.tk) (pa_tm X (x :: r)) h2 h4 h5 h3) (start _ fun H1 ρ1 v s1 R1 hv => ?_)
                obtain ⟨a, dx, ws, rfl, e2, e3⟩ := obj H1 ρ1 v R1 hv
                refine ⟨a, dx, ws, rfl, e2, e3, ?_⟩
                exact hb.a (x :: r) h6 σ H1 ρ1 env M1 _ (rel.next s1 R1) ((p.step s1).bind.mono fun ds M2 H2 ρ2 _ s2 R2 p2 vs r => ⟨.loc n :: ds, M2, ρ2, R2, RVs.cons (RV.mono R1 s2 _ _ hv) r, p2.toC⟩)
            · cases hm
          · cases hm
        · cases hm
  · cases h
theorem al_bi (c : Cc G cl cu B CA X W) {f : Bi} (ha : All CA X W (ev G cl cu a) (mm B G X.N a X.env.scope)) : All CA X W (ev G cl cu (.bi f a)) (mm B G X.N (.bi f a) X.env.scope) := by
  refine All.val fun e h => ?_
  split at h
  · rename_i y _ as _
    simp only [Bool.and_eq_true, decide_eq_true_eq] at h
    obtain ⟨⟨⟨⟨⟨hb, rfl⟩, h2⟩, h3⟩, h4⟩, h5⟩ := h
    refine ⟨fun σ H ρ env M Q rel p => ?_, rfl⟩
    cases as with
    | nil => cases h3
    | cons x r =>
      exact tm_pe (pe_bi (call_tm X (biV f)) (gl_of h2) (c.bln f) (pa_tm X (x :: r)) h4)
        (ha.a (x :: r) h5 σ H ρ env M _ rel (p.bind.mono fun ds M1 H1 ρ1 _ s1 R1 p1 vs r => biE_ok f (c.calm hb) R1 r p1))
  · cases h
theorem al_bm (c : Cc G cl cu B CA X W) {m : Bm} (ha : All CA X W (ev G cl cu a) (mm B G X.N a X.env.scope)) (hb : All CA X W (ev G cl cu b) (mm B G X.N b X.env.scope)) : All CA X W (ev G cl cu (.bm m a b)) (mm B G X.N (.bm m a b) X.env.scope) := by
  refine All.val fun e h => ?_
  split at h
  · rename_i l g ap as pos
    simp only [Bool.and_eq_true, decide_eq_true_eq] at h
    obtain ⟨⟨⟨⟨⟨⟨⟨rfl, h1⟩, h2⟩, h3⟩, h4⟩, h5⟩, h6⟩, h7⟩ := h
    refine ⟨fun σ H ρ env M Q rel p => ?_, rfl⟩
    have un : X.A.units + 1 < cLine := by have := c.un; omega
    cases as with
    | nil =>
      have z := hb.z [] h6 rfl
      cases m with
      | pop =>
        refine tm_pe (pe_bmA0 (mt_tm X "list.pop") (pe_tm X l) h2 h3) (ha.e l h1 σ H ρ env M _ rel (p.bind.mono fun x M1 H1 ρ1 _ s1 R1 p1 v hv => ?_))
        obtain ⟨ty, p2⟩ := p1.if_
        rw [z] at p2
        exact ⟨bmTy_ok .pop R1 hv ty, bmE_ok .pop un R1 hv RVs.nil p2⟩
      | _ => cases h7
    | cons x r =>
      refine tm_pe (pe_bmA (mt_tm X (bmI m)) (pe_tm X l) (pa_tm X (x :: r)) h2 h4 h5 h3) (ha.e l h1 σ H ρ env M _ rel (p.bind.mono fun y M1 H1 ρ1 _ s1 R1 p1 v hv => ?_))
      obtain ⟨ty, p2⟩ := p1.if_
      exact ⟨bmTy_ok m R1 hv ty, hb.a (x :: r) h6 σ H1 ρ1 env M1 _ (rel.next s1 R1) (p2.bind.mono fun ds M2 H2 ρ2 _ s2 R2 p3 vs r => bmE_ok m un R2 (RV.mono R1 s2 _ _ hv) r p3)⟩
  · cases h
theorem al_isi (c : Cc G cl cu B CA X W) {t : Ty} (ha : All CA X W (ev G cl cu a) (mm B G X.N a X.env.scope)) : All CA X W (ev G cl cu (.isi a t)) (mm B G X.N (.isi a t) X.env.scope) := by
  refine All.val fun e h => ?_
  split at h
  · rename_i y _ l z _ _
    simp only [Bool.and_eq_true, decide_eq_true_eq] at h
    obtain ⟨⟨⟨⟨⟨rfl, h2⟩, rfl⟩, h4⟩, h5⟩, h6⟩ := h
    refine ⟨fun σ H ρ env M Q rel p => ?_, rfl⟩
    obtain ⟨t1, t2⟩ := tyS_ne t
    have pz : ∀ q, PA X [.Name (tyS t) q] (tCons (tC (.ty (tyN t))) tNil) := fun q => pa_cons (pe_bltn (pos := q) (gl_of h4) (c.tyn t) (boot_ty t) (show RelV (.ty (tyN t)) (.type (tyN t)) from rfl) t1 t2) pa_nil
    refine tm_pe (pe_callB (call_tm X (.builtin "isinstance")) (gl_of h2) c.isn PyProof.Rows.boot_isinstance (pa_cons (pe_tm X l) (pz _) (nst_ok h5 _ X.env)) (by decide) (by decide) (nst_ok h5 _ X.env) rfl) ?_
    refine ha.e l h6 σ H ρ env M _ rel (p.bind.mono fun x M1 H1 ρ1 _ s1 R1 p1 v hv => ?_)
    obtain ⟨k, e, q⟩ := p1.cmp R1
    exact isiE_ok t R1 hv e q
  · cases h
theorem al_cmp1 (c : Cc G cl cu B CA X W) {tg own : List Nat} {sole : Bool} (hi : All CA X W (ev G cl cu b) (mm B G X.N b X.env.scope))
    (hc : B.cm = true → ∀ s2 : Scope, s2.kind = .function → ∀ (s : Shared) (H : Hp) (C : Addr) (cs : List (Str × Addr)) (fp : List Addr), All CA (blkX X s2 s H C cs fp) W0 (ev G cl cu d) (mm B G X.N d (relS s2 X.env.scope)))
    (he : B.cm = true → ∀ s2 : Scope, s2.kind = .function → ∀ (s : Shared) (H : Hp) (C : Addr) (cs : List (Str × Addr)) (fp : List Addr), All CA (blkX X s2 s H C cs fp) W0 (ev G cl cu a) (mm B G X.N a (relS s2 X.env.scope))) :
    All CA X W (ev G cl cu (.cmp1 a tg sole own b d)) (mm B G X.N (.cmp1 a tg sole own b d) X.env.scope) := by
  refine All.val fun e h => ?_
  split at h
  · rename_i l t src ifs k s2 pos
    simp only [Bool.and_eq_true, decide_eq_true_eq] at h
    obtain ⟨⟨⟨⟨⟨⟨⟨⟨⟨hb, rfl⟩, h1⟩, h2⟩, h3⟩, h4⟩, h5⟩, h6⟩, h7⟩, h8⟩ := h
    have ok := blkOk_by h3
    refine ⟨?_, rfl⟩
    have := lc_se (CA := CA) (W := W) (tg := tg) (sole := sole) (pos := pos) (c.calm hb) c.nd (hi.i t src h1) ok (fun i hi => by
        rw [h4]
        have := List.all_eq_true.mp h5 i hi
        simpa using this) (fun s H C cs fp => tgM_ok (X := blkX X s2 s H C cs fp) (fc := false) (fun z => by cases z) c.nd (c.calm hb) h6) (fun s H C cs fp => (hc hb s2 ok.kind s H C cs fp).c ifs h7) (fun s H C cs fp => (he hb s2 ok.kind s H C cs fp).e l h8) (nset_ok h2 X.env) (c.sgc hb)
    rw [h4] at this
    exact this
  · cases h
theorem al_isx (c : Cc G cl cu B CA X W) {k : Nat} : All CA X W (ev G cl cu (.isx k)) (mm B G X.N (.isx k) X.env.scope) := by
  refine All.val fun e h => ?_
  split at h
  · rename_i y p1 n p2 z p3 pos
    simp only [Bool.and_eq_true, decide_eq_true_eq] at h
    obtain ⟨⟨⟨⟨⟨⟨⟨⟨rfl, h2⟩, h3⟩, h4⟩, h5⟩, rfl⟩, h7⟩, h8⟩, h9⟩ := h
    obtain ⟨d1, d2, _⟩ := dbgB_ok h5
    obtain ⟨d3, d4, _⟩ := dbgB_ok h8
    refine ⟨fun σ H ρ env M Q rel p => ?_, rfl⟩
    replace p : Post CA X.K W σ H ρ (isxE G cu k M) (kV' X.K Q) := p
    unfold isxE at p
    split at p
    · rename_i kk
      obtain ⟨_, p⟩ := p.if_
      obtain ⟨ck, a, oe, d, pn, X0, eX, hz, hf, hs⟩ := c.xc kk [] rfl
      obtain ⟨s1, s2⟩ := hs σ H rel.sg
      have hd : d = none := by
        cases d with
        | none => rfl
        | some d => exact absurd rfl s2.1
      subst hd
      have kit := (c.xsb kk k ck h9).1
      have cls := (c.xcl k h9).1
      have exc := (c.xcl kk ck).2
      have isn := c.isn
      have g1 := gl_of (X := X) h2
      have g2 := gl_of (X := X) h7
      have v1 := visB_ok h4
      have q := p.here rel.st _ of_bl
      clear p hs rel c
      subst eX
      refine tm_pe (pe_callB (call_isE exc hz hf) g1 isn PyProof.Rows.boot_isinstance (pa_cons (pe_var h3 v1 d1 d2) (pa_cons (pe_glob g2 cls (show RelV (.ref (CA k)) (.ref (CA k)) from rfl) d3) pa_nil)) (by decide) (by decide)) ?_
      exact ⟨_, s1, .ref (CA k), .ref (CA k), G.sub kk k, rfl, fun u r => r, kit, q⟩
    · exact p.elim
  · cases h
theorem al_xfd (c : Cc G cl cu B CA X W) {f : Str} : All CA X W (ev G cl cu (.xfd f)) (mm B G X.N (.xfd f) X.env.scope) := by
  refine All.val fun e h => ?_
  split at h
  · rename_i n p1 g pos
    simp only [Bool.and_eq_true, decide_eq_true_eq] at h
    obtain ⟨⟨⟨rfl, h3⟩, h4⟩, h5⟩ := h
    obtain ⟨d1, d2, _⟩ := dbgB_ok h5
    refine ⟨fun σ H ρ env M Q rel p => ?_, rfl⟩
    replace p : Post CA X.K W σ H ρ (xfdE G cu f M) (kV' X.K Q) := p
    unfold xfdE at p
    split at p
    · rename_i kk fs
      obtain ⟨hk, p⟩ := p.if_
      obtain ⟨x, ex, p⟩ := p.ofO
      obtain ⟨ck, a, oe, d, pn, X0, eX, hz, hf, hs⟩ := c.xc kk fs rfl
      obtain ⟨s1, s2⟩ := hs σ H rel.sg
      cases d with
      | none =>
        have s2 : fs = [] := s2
        subst s2
        cases ex
      | some d =>
        obtain ⟨_, ws, e1, e2⟩ := s2
        obtain ⟨v, e3, e4⟩ := e2 f x ex
        obtain ⟨x1, x2⟩ := c.xfl kk f hk
        have v1 := visB_ok h4
        have q := p.here rel.st v (RV.keep (H := H) (H' := H) (ρ := []) (ρ' := ρ) ⟨fun _ _ h => h, fun _ _ _ h => h⟩ (List.nil_prefix) x v e4)
        clear p hs rel c
        subst eX
        exact tm_pe (pe_xf x1 x2 hz hf (pe_var h3 v1 d1 d2)) ⟨_, s1, rfl, rfl, d, ws, v, rfl, e1, e3, q⟩
    · exact p.elim
  · cases h
end
theorem all_ok {CA : Ca} {G : Gl} {cl : Cl} {B : Tb} {cu : Option (Nat × List (Str × D))} : ∀ (x : E) (X : Cx) (W : WX), Cc G cl cu B CA X W → All CA X W (ev G cl cu x) (mm B G X.N x X.env.scope)
  | .nil, X, W, c => al_nil
  | .cons x y, X, W, c => al_cons (all_ok x X W c) (all_ok y X W c)
  | .var _, X, W, c => al_var
  | .non, X, W, c => al_non
  | .bl _, X, W, c => al_bl
  | .int _, X, W, c => al_int
  | .str _, X, W, c => al_str
  | .glb _, X, W, c => al_glb c
  | .bin _ x y, X, W, c => al_bin (all_ok x X W c) (all_ok y X W c)
  | .neg x, X, W, c => al_neg (all_ok x X W c)
  | .cmp _ x y, X, W, c => al_cmp c (all_ok x X W c) (all_ok y X W c)
  | .chn _ _ x y z, X, W, c => al_chn c (all_ok x X W c) (all_ok y X W c) (all_ok z X W c)
  | .ch3 _ _ _ x y z w, X, W, c => al_ch3 c (all_ok x X W c) (all_ok y X W c) (all_ok z X W c) (all_ok w X W c)
  | .and x y, X, W, c => al_and (all_ok x X W c) (all_ok y X W c)
  | .or x y, X, W, c => al_or (all_ok x X W c) (all_ok y X W c)
  | .not x, X, W, c => al_not (all_ok x X W c)
  | .ife x y z, X, W, c => al_ife (all_ok x X W c) (all_ok y X W c) (all_ok z X W c)
  | .tup x, X, W, c => al_tup (all_ok x X W c)
  | .lst x, X, W, c => al_lst (all_ok x X W c)
  | .dnl _, X, W, c => al_dnl
  | .dsp _, X, W, c => All.none
  | .idx x y, X, W, c => al_idx c (all_ok x X W c) (all_ok y X W c)
  | .slc x y z, X, W, c => al_slc (all_ok x X W c) (all_ok y X W c) (all_ok z X W c)
  | .rev _, X, W, c => All.none
  | .fld x _, X, W, c => al_fld c (all_ok x X W c)
  | .cal _ x, X, W, c => al_cal c (all_ok x X W c)
  | .mak k x, X, W, c => al_mak c (all_ok x X W c)
  | .mth x _ y, X, W, c => al_mth c (all_ok x X W c) (all_ok y X W c)
  | .bi _ x, X, W, c => al_bi c (all_ok x X W c)
  | .bm _ x y, X, W, c => al_bm c (all_ok x X W c) (all_ok y X W c)
  | .isi x _, X, W, c => al_isi c (all_ok x X W c)
  | .isx _, X, W, c => al_isx c
  | .xfd _, X, W, c => al_xfd c
  | .rng x, X, W, c => al_rng c (all_ok x X W c)
  | .cmp1 x _ _ _ y z, X, W, c => al_cmp1 c (all_ok y X W c) (fun hb s2 hk s H C cs fp => all_ok z (blkX X s2 s H C cs fp) W0 (c.blk hb hk s H C cs fp)) (fun hb s2 hk s H C cs fp => all_ok x (blkX X s2 s H C cs fp) W0 (c.blk hb hk s H C cs fp))
end Dv
end

section
set_option Elab.async false
set_option autoImplicit false
set_option linter.all false
set_option maxRecDepth 100000
set_option maxHeartbeats 4000000
/-! DvN: a statement that matches does what the evaluator says. -/
namespace Dv
open PySem L2
/-! ### the matcher -/
structure MtS where
  s : Stmt → Bool
  b : List Stmt → Bool
def ntup : Expr → Bool | .Tuple _ _ _ => false | _ => true
/-- [..] may go to the local y at py -/
def lcTo (y : Str) (py : Pos) : Expr → Bool
  | .ListComp _ _ s2 pos => (py.line == pos.line) && !(s2.names.any fun (n, k) => n == y && (k == .local || k == .cell))
  | _ => false
section
variable (G : Gl) (N : List Str) (sc : Scope)
def asgM (B : Tb) (t : T) (e : E) (tg v : Expr) : Bool := match t with
  | .nm i => (match tg with | .Name y py => B.cm && decide (N[i]? = some y) && lclB true sc y && (mm B G N e sc).e v && (ncmp v || (match sc.names.lookup y with | some .cell => true | _ => false) || (match e with | .cmp1 _ _ _ _ _ _ => true | _ => false) && (locB sc y && lcTo y py v)) | _ => false)
  | .tp is => B.cm && tgM N true sc is false tg && (mm B G N e sc).e v && ncmp v && ntup v
  | .sub o i => (match tg with | .Subscript l r _ => B.cm && (mm B G N o sc).e l && (mm B G N i sc).e r && nsl r && (mm B G N e sc).e v && ncmp v | _ => false)
  | .att o f => (match tg with | .Attribute l g _ => B.cm && decide (f = g) && (mm B G N o sc).e l && (mm B G N e sc).e v | _ => false)
def msS (f : Stmt → Bool) : MtS := ⟨f, fun _ => false⟩
def ms : S → Tb → MtS
  | .nil, _ => ⟨fun _ => false, fun l => l.isEmpty⟩
  | .cons x y, B => ⟨fun _ => false, fun l => match l with | s :: r => (ms x B).s s && (ms y B).b r | _ => false⟩
  | .asg t e, B => msS fun s => match s with | .Assign [tg] v _ => asgM G N sc B t e tg v | _ => false
  | .ex e, B => msS fun s => match s with | .Expr v _ => (mm B G N e sc).e v && ncmp v | _ => false
  | .ret e, B => msS fun s => match s with | .Return (some v) _ => (mm B G N e sc).e v | _ => false
  | .retN, _ => msS fun s => match s with | .Return none _ => true | _ => false
  | .pas, _ => msS fun s => match s with | .Pass _ => true | .Expr (.Constant (.str _) _ _) _ => true | _ => false
  | .ite c a b, B => msS fun s => match s with | .If c' p q _ => (mm B G N c sc).e c' && (ms a B).b p && (ms b B).b q | _ => false
  | .for_ tg sole it body, B => msS fun s => match s with | .For t' it' p [] _ => B.cm && (mm B G N it sc).i it' && nset it' && tgM N true sc tg sole t' && (ms body B).b p | _ => false
  | .whl c body, B => msS fun s => match s with | .While c' p [] _ => B.cm && (mm B G N c sc).e c' && (ms body B).b p | _ => false
  | .rai c es, B => msS fun s => match s with | .Raise (some (.Call (.Name y _) as [] _)) none _ => B.cm && decide (y = B.cn c) && gloB sc y && dbgB y && nsts as && !as.isEmpty && (mm B G N es sc).a as && ((G.exi c).isSome || G.xraw c) | _ => false
  | .tri body c nm suite, B => msS fun s => match s with
    | .Try p [.ExceptHandler (some (.Name x _)) n (b0 :: q) _] [] [] _ => B.cm && decide (x = B.cn c) && gloB sc x && dbgB x && G.isc c && (ms body B).b p && (match nm with
      | some i => (match n with | some n => decide (N[i]? = some n) && locB sc n && (ms suite { B with cm := false, xi := i }).b (b0 :: q) | none => false)
      | none => n.isNone && (ms suite { B with cm := false, xi := N.length }).b (b0 :: q))
    | _ => false
end
/-! ### what is wanted behind a statement -/
section
variable (CA : Ca) (K : PySem.W.Frag) (W : WX)
def PostS (H : Hp) (ρ : List Addr) (r : Rs) (D : Ends) : Prop := match r with
  | .nx e M => ∀ σ' H' ρ', St8 H ρ H' ρ' → Rel CA K H' ρ' e σ' M → D.nx σ' H'
  | .rt d M => ∀ v H' ρ', St8 H ρ H' ρ' → RS CA K H' ρ' M → RV K H' ρ' d v → D.rt v H'
  | .exc c fs e M => ∀ dd σ' H' ρ', St8 H ρ H' ρ' → Rel CA K H' ρ' e σ' M → XR K H' fs dd → W (.ref (CA c)) dd σ' H'
  | .bad => False
end
section
variable {CA : Ca} {K : PySem.W.Frag} {W : WX} {H H1 : Hp} {ρ ρ1 : List Addr} {σ : L2.St} {env : Env} {M : Store} {D : Ends}
theorem PostS.step {r : Rs} (s : St8 H ρ H1 ρ1) (p : PostS CA K W H ρ r D) : PostS CA K W H1 ρ1 r D := by
  cases r with
  | nx e M => exact fun σ' H' ρ' s' R => p σ' H' ρ' (s.trans s') R
  | rt d M => exact fun v H' ρ' s' R => p v H' ρ' (s.trans s') R
  | exc c fs e M => exact fun dd σ' H' ρ' s' R => p dd σ' H' ρ' (s.trans s') R
  | bad => exact p
theorem PostS.ends {r : Rs} {D' : Ends} (p : PostS CA K W H ρ r D) (h1 : ∀ σ H, D.nx σ H → D'.nx σ H) (h2 : ∀ v H, D.rt v H → D'.rt v H) : PostS CA K W H ρ r D' := by
  cases r with
  | nx e M => exact fun σ' H' ρ' s' R => h1 _ _ (p σ' H' ρ' s' R)
  | rt d M => exact fun v H' ρ' s' R r => h2 _ _ (p v H' ρ' s' R r)
  | exc c fs e M => exact p
  | bad => exact p
theorem PostS.run {α : Type} {o : Out α} {f : α → Store → Rs} (p : PostS CA K W H ρ (o.run env f) D) (rel : Rel CA K H ρ env σ M) : Post CA K W σ H ρ o (fun a M' H' ρ' => PostS CA K W H' ρ' (f a M') D) := by
  cases o with
  | ok a M' => exact fun H' ρ' s R => p.step s
  | exc c fs M' => exact fun dd H' ρ' s R x => p dd σ H' ρ' s (rel.next s R) x
  | bad => exact p
theorem PostS.andThen {r : Rs} {f : Env → Store → Rs} (p : PostS CA K W H ρ (r.andThen f) D) : PostS CA K W H ρ r { D with nx := fun σ' H' => ∃ ρ' e M', St8 H ρ H' ρ' ∧ Rel CA K H' ρ' e σ' M' ∧ PostS CA K W H' ρ' (f e M') D } := by
  cases r with
  | nx e M' => exact fun σ' H' ρ' s R => ⟨ρ', e, M', s, R, p.step s⟩
  | rt d M' => exact p
  | exc c fs e M' => exact p
  | bad => exact p
theorem PostS.here {e : Env} (p : PostS CA K W H ρ (.nx e M) D) (rel : Rel CA K H ρ e σ M) : D.nx σ H := p σ H ρ (St8.refl H ρ) rel
end
section
variable (CA : Ca) (X : Cx) (W : WX)
def SS (st : Stmt) (f : Env → Store → Rs) : Prop := ∀ (σ : L2.St) (H : Hp) (ρ : List Addr) (env : Env) (M : Store) (D : Ends), Rel CA X.K H ρ env σ M → PostS CA X.K W H ρ (f env M) D → TMS X st D σ H
def SB (l : List Stmt) (f : Env → Store → Rs) : Prop := ∀ (σ : L2.St) (H : Hp) (ρ : List Addr) (env : Env) (M : Store) (D : Ends), Rel CA X.K H ρ env σ M → PostS CA X.K W H ρ (f env M) D → TMB X l D σ H
structure AllS (f : Env → Store → Rs) (m : MtS) : Prop where
  s : ∀ st, m.s st = true → SS CA X W st f
  b : ∀ l, m.b l = true → SB CA X W l f
end
/-- C(e, ..) makes an exception with the fields fs -/
def XMk (X : Cx) (C : Addr) (x : Str) (fs : List Str) : Prop := ∀ (pn : List (Addr × Obj)) (xe : Value → Shared → Prop) (W : WX), Takes (X.tr pn xe) W → ∀ (e : Expr) (es : List Expr) (p pos : Pos) (t : TA), PA (X.tr pn xe) (e :: es) t → nsts (e :: es) = true → L2.Gl X x → (x == ("__debug__" : Str)) = false →
  PMk (X.tr pn xe) (.Call (.Name x p) (e :: es) [] pos) (fun σ H Q => t σ H fun vs H1 => vs.length = fs.length ∧ ∀ d, H1 d = none → Q (.ref C) (some d) (upd H1 d (.xd (fs.zip vs).reverse)))
/-- the context of a body's statements -/
structure Sc (G : Gl) (cl : Cl) (cu : Option (Nat × List (Str × D))) (B : Tb) (CA : Ca) (X : Cx) (W : WX) : Prop where
  cc : Cc G cl cu B CA X W
  own : B.cm = true → PassesOwn (model X.prog X.w) X.A X.env X.xe
  fnc : B.cm = true → ∀ y, X.fn y = true
  stk : X.stack = X.env :: X.outer
  frm : X.env.frame = some X.env.locals
  xrw : ∀ c, G.xraw c = true → X.mg (B.cn c) = some (.ref (CA c)) ∧ PySem.W.keepIn X.K (.ref (CA c)) = true ∧ Raises X (.ref (CA c)) ∧ ∃ T newId initId bmB, ExcBaseFacts T newId initId bmB ∧ PySem.W.excIn X.K (CA c) bmB newId = true
  xmk : B.cm = true → ∀ c fs, G.exi c = some fs → XMk X (CA c) (B.cn c) fs
end Dv
end

section
set_option Elab.async false
set_option autoImplicit false
set_option linter.all false
set_option maxRecDepth 100000
set_option maxHeartbeats 4000000
/-! DvO: a statement that matches does what the evaluator says, proved. -/
namespace Dv
open PySem L2
section
variable {CA : Ca} {X : Cx} {W : WX} {G : Gl} {cl : Cl} {B : Tb} {cu : Option (Nat × List (Str × D))}
theorem AllS.one {f : Env → Store → Rs} {g : Stmt → Bool} (h : ∀ st, g st = true → SS CA X W st f) : AllS CA X W f (msS g) := ⟨h, fun l h => by cases h⟩
theorem sl_nil : AllS CA X W (exS G cl .nil cu) (ms G X.N X.env.scope .nil B) := ⟨fun st h => (by cases h), fun l h => by
  cases l with
  | nil => exact fun σ H ρ env M D rel p => tm_pss pss_nil (p.here rel)
  | cons _ _ => cases h⟩
theorem sl_cons {x y : S} (hx : AllS CA X W (exS G cl x cu) (ms G X.N X.env.scope x B)) (hy : AllS CA X W (exS G cl y cu) (ms G X.N X.env.scope y B)) : AllS CA X W (exS G cl (.cons x y) cu) (ms G X.N X.env.scope (.cons x y) B) := ⟨fun st h => (by cases h), fun l h => by
  cases l with
  | nil => cases h
  | cons s r =>
    obtain ⟨h1, h2⟩ := Bool.and_eq_true_iff.mp (show ((ms G X.N X.env.scope x B).s s && (ms G X.N X.env.scope y B).b r) = true from h)
    refine fun σ H ρ env M D rel p => tm_pss (pss_cons (ps_tm X s) (pss_tm X r)) ?_
    refine hx.s s h1 σ H ρ env M _ rel (PostS.ends (PostS.andThen p) (fun σ' H' ⟨ρ', e, M', s', R, p'⟩ => ?_) fun _ _ q => q)
    exact hy.b r h2 σ' H' ρ' e M' D R p'⟩
theorem sl_pas : AllS CA X W (exS G cl .pas cu) (ms G X.N X.env.scope .pas B) := AllS.one fun st h => by
  split at h
  · exact fun σ H ρ env M D rel p => tm_ps ps_pass (p.here rel)
  · exact fun σ H ρ env M D rel p => tm_ps ps_doc (p.here rel)
  · cases h
theorem sl_retN : AllS CA X W (exS G cl .retN cu) (ms G X.N X.env.scope .retN B) := AllS.one fun st h => by
  split at h
  · exact fun σ H ρ env M D rel p => tm_ps ps_retN (p .non H ρ (St8.refl H ρ) rel.st of_non)
  · cases h
theorem sl_ret (c : Sc G cl cu B CA X W) {x : E} : AllS CA X W (exS G cl (.ret x) cu) (ms G X.N X.env.scope (.ret x) B) := AllS.one fun st h => by
  split at h
  · rename_i v _
    refine fun σ H ρ env M D rel p => tm_ps (ps_ret (pe_tm X v)) ?_
    exact (all_ok x X W c.cc).e v h σ H ρ env M _ rel ((PostS.run p rel).mono fun d M1 H1 ρ1 _ s1 R1 p1 v hv => p1 v H1 ρ1 (St8.refl H1 ρ1) R1 hv)
  · cases h
theorem sl_ex (c : Sc G cl cu B CA X W) {x : E} : AllS CA X W (exS G cl (.ex x) cu) (ms G X.N X.env.scope (.ex x) B) := AllS.one fun st h => by
  split at h
  · rename_i v _
    obtain ⟨h1, h2⟩ := Bool.and_eq_true_iff.mp h
    refine fun σ H ρ env M D rel p => tm_ps (ps_expr (pe_tm X v) (ncmp_ok h2 _ _ X.env)) ?_
    exact (all_ok x X W c.cc).e v h1 σ H ρ env M _ rel ((PostS.run p rel).mono fun d M1 H1 ρ1 _ s1 R1 p1 v hv => p1.here (rel.next s1 R1))
  · cases h
theorem sl_ite (c : Sc G cl cu B CA X W) {x : E} {a b : S} (ha : AllS CA X W (exS G cl a cu) (ms G X.N X.env.scope a B)) (hb : AllS CA X W (exS G cl b cu) (ms G X.N X.env.scope b B)) : AllS CA X W (exS G cl (.ite x a b) cu) (ms G X.N X.env.scope (.ite x a b) B) := AllS.one fun st h => by
  split at h
  · rename_i v p q _
    simp only [Bool.and_eq_true] at h
    obtain ⟨⟨h1, h2⟩, h3⟩ := h
    refine fun σ H ρ env M D rel pp => tm_ps (ps_if (pt_tm X v) (pss_tm X p) (pss_tm X q)) ?_
    refine (all_ok x X W c.cc).t v h1 σ H ρ env M _ rel ((PostS.run pp rel).mono fun b M1 H1 ρ1 _ s1 R1 p1 => ?_)
    cases b with
    | true => exact ha.b p h2 σ H1 ρ1 env M1 D (rel.next s1 R1) p1
    | false => exact hb.b q h3 σ H1 ρ1 env M1 D (rel.next s1 R1) p1
  · cases h
theorem swt_other {v : Expr} {t : Expr} (h : ∀ y p, t ≠ .Name y p) (l : Nat) (env : PySem.Env) : swapsWith v (some t) l env = pure false := by
  cases v <;> first | rfl | (cases t <;> first | rfl | exact absurd rfl (h _ _))
theorem sws_tup {es : List Expr} {k : Nat} {p : Pos} {v : Expr} (h : ntup v = true) (env : PySem.Env) : swappedStores [.Tuple es k p] v env = pure none := by
  cases v <;> first | rfl | cases h
theorem asgn_sub {o i : Expr} {pos : Pos} (h : nsl i = true) (env : PySem.Env) (v : Value) : assign (.Subscript o i pos) env v = (do
      let ov ← holding [v] (eval o env)
      let iv ← holding [v, ov] (eval i env)
      standAt pos
      holding [v, ov, iv] (setItem ov iv v)
      release [v, ov, iv] []) := by
  cases i <;> first | rfl | cases h
theorem PostS.set {H : Hp} {ρ : List Addr} {σ : L2.St} {env : Env} {M : Store} {D : Ends} {i : Nat} {d : Dv.D} {v : V} (p : PostS CA X.K W H ρ (.nx (env.set i (some d)) M) D) (hs : ∀ σ H, CA.sg σ H) (rel : Rel CA X.K H ρ env σ M) (hv : RV X.K H ρ d v) : D.nx (σ.set i (some v)) H :=
  p.here ⟨rel.st, rel.en.set i hv, hs _ _⟩
theorem putF_map {H : Hp} {ρ : List Addr} {f : Str} {d : D} {v : V} (hv : RV X.K H ρ d v) : ∀ {fs : List (Str × Dv.D)} {ws : List (Str × V)}, ws.map (·.1) = fs.map (·.1) → RVs X.K H ρ (fs.map (·.2)) (ws.map (·.2)) →
    (putF f v ws).map (·.1) = (putD f d fs).map (·.1) ∧ RVs X.K H ρ ((putD f d fs).map (·.2)) ((putF f v ws).map (·.2))
  | [], [], _, _ => ⟨rfl, RVs.cons hv RVs.nil⟩
  | [], _ :: _, h, _ => by cases h
  | _ :: _, [], h, _ => by cases h
  | (g, x) :: fs, (g', y) :: ws, h1, h2 => by
    simp only [List.map_cons, List.cons.injEq] at h1
    obtain ⟨rfl, h1⟩ := h1
    simp only [List.map_cons, RVs] at h2
    obtain ⟨w, r, e, h2, h3⟩ := h2
    simp only [List.cons.injEq] at e
    obtain ⟨rfl, rfl⟩ := e
    unfold putD putF
    by_cases e : g' = f
    · rw [if_pos e, if_pos e]
      exact ⟨by simp [h1, e], RVs.cons hv h3⟩
    · rw [if_neg e, if_neg e]
      obtain ⟨a, b⟩ := putF_map hv h1 h3
      exact ⟨by simp [a], RVs.cons h2 b⟩
theorem sl_asg (c : Sc G cl cu B CA X W) {t : T} {x : E} : AllS CA X W (exS G cl (.asg t x) cu) (ms G X.N X.env.scope (.asg t x) B) := AllS.one fun st h => by
  split at h
  · rename_i tg v pos
    unfold asgM at h
    have A := all_ok (cu := cu) x X W c.cc
    cases t with
    | nm i =>
      simp only at h
      split at h
      · rename_i y py
        simp only [Bool.and_eq_true, decide_eq_true_eq, Bool.or_eq_true] at h
        obtain ⟨⟨⟨⟨h1, h2⟩, h3⟩, h4⟩, h5⟩ := h
        obtain ⟨l1, l2⟩ := lcl_both (X := X) (fun _ => c.fnc h1) h3
        intro σ H ρ env M D rel p
        have q := PostS.run (σ := σ) p rel
        have go : (∀ py : Pos, swapsWith v (some (.Name y py)) pos.line X.env = pure false) → TMS X (.Assign [.Name y py] v pos) D σ H := fun hsw => by
          refine tm_ps (ps_set c.cc.nd h2 l1 (pe_tm X v) (hsw py) l2) ?_
          exact A.e v h4 σ H ρ env M _ rel (q.mono fun d M1 H1 ρ1 _ s1 R1 p1 v hv => PostS.set p1 (c.cc.sgc h1) (rel.next s1 R1) hv)
        rcases h5 with (h5 | h5) | ⟨h5, h6⟩
        · exact go fun _ => ncmp_ok h5 _ _ X.env
        · split at h5
          · rename_i lk
            refine go fun py => ?_
            have bk : X.env.blockKind = .function := by unfold Env.blockKind; rw [c.cc.kind]; rfl
            have kd : X.env.kindOf y = some .cell := lk
            cases v <;> first | rfl | (unfold swapsWith; simp only [kd, bk]; rfl)
          · cases h5
        · split at h5
          · rename_i a tgs sole own b d
            have l : X.env.scope.names.lookup y = some .local := locB_ok h6.1
            replace h6 := h6.2
            have h4 : (match (generalizing := false) v with
              | .ListComp l [⟨t, src, ifs, k⟩] s2 _ => B.cm && decide (k = 0) && (mm B G X.N b X.env.scope).i src && nset src && blkC X.N X.env.scope s2 (ownP X.N own) && decide ((ownP X.N own).map (·.2) = own) && tgs.all (fun i => own.contains i) && tgM X.N false (relS s2 X.env.scope) tgs sole t && (mm B G X.N d (relS s2 X.env.scope)).c ifs && (mm B G X.N a (relS s2 X.env.scope)).e l
              | _ => false) = true := h4
            split at h4
            · rename_i l' t src ifs k s2 lpos _
              simp only [Bool.and_eq_true, decide_eq_true_eq] at h4
              obtain ⟨⟨⟨⟨⟨⟨⟨⟨⟨hb, rfl⟩, k1⟩, k2⟩, k3⟩, k4⟩, k5⟩, k6⟩, k7⟩, k8⟩ := h4
              have ok := blkOk_by k3
              obtain ⟨m1, m2⟩ := Bool.and_eq_true_iff.mp (show ((py.line == lpos.line) && !(s2.names.any fun (n, k) => n == y && (k == .local || k == .cell))) = true from h6)
              refine tm_ps (ps_setLc (c.cc.calm hb) c.cc.nd h2 l (sw_true c.cc.kind l m1 (by simpa using m2)) (pi_tm X t src) ok (g := gT X.K tgs sole) (fun s H C cs fp => tgM_ok (X := blkX X s2 s H C cs fp) (fc := false) (fun z => by cases z) c.cc.nd (c.cc.calm hb) k6) ptb peb (nset_ok k2 X.env)) ?_
              refine lc_t (fi := (ev G cl cu b).i) (fc := fun e M => (ev G cl cu d).c e M) (fe := fun e M => (ev G cl cu a).e e M) ((all_ok (cu := cu) b X W c.cc).i t src k1) (fun i hi => by
                rw [k4]
                have := List.all_eq_true.mp k5 i hi
                simpa using this) (fun s H C cs fp => (all_ok (cu := cu) d _ _ (c.cc.blk hb ok.kind s H C cs fp)).c ifs k7) (fun s H C cs fp => (all_ok (cu := cu) a _ _ (c.cc.blk hb ok.kind s H C cs fp)).e l' k8) (c.cc.sgc hb) rel ?_
              rw [k4]
              exact q.mono fun d M1 H1 ρ1 _ s1 R1 p1 v hv => PostS.set p1 (c.cc.sgc h1) (rel.next s1 R1) hv
            · cases h4
          · cases h5
      · cases h
    | tp is =>
      simp only [Bool.and_eq_true] at h
      obtain ⟨⟨⟨⟨h1, h2⟩, h3⟩, h4⟩, h5⟩ := h
      intro σ H ρ env M D rel p
      have g := tgM_ok (fun _ => c.fnc h1) c.cc.nd (c.cc.calm h1) h2
      unfold tgM at h2
      simp only at h2
      split at h2
      · rename_i es k tp
        refine tm_ps (ps_asg (pe_tm X v) g (ncmp_ok h4 (some (.Tuple es k tp)) pos.line X.env) (sws_tup h5 X.env) rfl) ?_
        refine A.e v h3 σ H ρ env M _ rel ((PostS.run p rel).mono fun d M1 H1 ρ1 eo s1 R1 p1 v hv => ?_)
        clear eo
        replace p1 : PostS CA X.K W H1 ρ1 (match (generalizing := false) d with
          | .tup ds => match (generalizing := false) bindN is ds env with
            | some e' => .nx e' M1
            | none => .bad
          | _ => .bad) D := p1
        split at p1
        · rename_i ds
          split at p1
          · rename_i e' be
            exact gT_ok (vs := []) hv (show bindT is false (.tup ds) env = some e' from be) (rel.next s1 R1).en fun σ' re _ => p1.here ⟨R1, re, c.cc.sgc h1 _ _⟩
          · exact p1.elim
        · exact p1.elim
      · cases h2
    | sub o i =>
      simp only at h
      split at h
      · rename_i l r sp
        simp only [Bool.and_eq_true] at h
        obtain ⟨⟨⟨⟨⟨h1, h2⟩, h3⟩, h4⟩, h5⟩, h6⟩ := h
        intro σ H ρ env M D rel p
        refine tm_ps (ps_asg (pe_tm X v) (pg_sub (pe_tm X l) (pe_tm X r) set_tm (asgn_sub h4 X.env)) (ncmp_ok h6 (some (.Subscript l r sp)) pos.line X.env) rfl rfl) ?_
        refine A.e v h5 σ H ρ env M _ rel ((PostS.run p rel).mono fun d M1 H1 ρ1 _ s1 R1 p1 z hz => ?_)
        have r1 := rel.next s1 R1
        refine (all_ok (cu := cu) o X W c.cc).e l h2 σ H1 ρ1 env M1 _ r1 ((PostS.run p1 r1).mono fun a M2 H2 ρ2 _ s2 R2 p2 v2 hv2 => ?_)
        have r2 := r1.next s2 R2
        refine (all_ok (cu := cu) i X W c.cc).e r h3 σ H2 ρ2 env M2 _ r2 ((PostS.run p2 r2).mono fun b M3 H3 ρ3 _ s3 R3 p3 v3 hv3 => ?_)
        have r3 := r2.next s3 R3
        refine setE_ok (W := W) (σ := σ) (by have := c.cc.un; omega) R3 (RV.mono R2 s3 _ _ hv2) hv3 (RV.mono R2 s3 _ _ (RV.mono R1 s2 _ _ hz)) ?_
        exact (PostS.run p3 r3).mono fun _ M4 H4 ρ4 _ s4 R4 p4 => p4.here (r3.next s4 R4)
      · cases h
    | att o f =>
      simp only at h
      split at h
      · rename_i l g ap
        simp only [Bool.and_eq_true, decide_eq_true_eq] at h
        obtain ⟨⟨⟨h1, rfl⟩, h2⟩, h3⟩ := h
        intro σ H ρ env M D rel p
        refine tm_ps (ps_fld (pe_tm X l) (pe_tm X v) (swt_other (fun _ _ z => by cases z) _ X.env)) ?_
        refine A.e v h3 σ H ρ env M _ rel ((PostS.run p rel).mono fun d M1 H1 ρ1 _ s1 R1 p1 z hz => ?_)
        have r1 := rel.next s1 R1
        refine (all_ok (cu := cu) o X W c.cc).e l h2 σ H1 ρ1 env M1 _ r1 ((PostS.run p1 r1).mono fun a M2 H2 ρ2 _ s2 R2 p2 v2 hv2 => ?_)
        have r2 := r1.next s2 R2
        have p3 := PostS.run (σ := σ) p2 r2
        unfold attE at p3
        split at p3
        · split at p3
          · rename_i n C fs q
            obtain ⟨⟨l1, l2⟩, p4⟩ := p3.if_
            obtain ⟨k1, k2⟩ := c.cc.fld C f l2
            obtain ⟨ad, u, rfl, ea, e2, dx, ws, rfl, e3, e4⟩ := rv_obj R2 hv2 q
            obtain ⟨m1, m2⟩ := putF_map (f := f) (RV.mono R1 s2 _ _ hz) e3 e4
            have ma : ad ∈ ρ2 := List.mem_of_getElem? ea
            have s3 : St8 H2 ρ2 (upd H2 ad (.ins (CA C) dx (putF f z ws))) ρ2 := St8.write ma
            have R3 := R2.write (o := .ins (CA C) dx (putF f z ws)) (ob := .ins C (putD f d fs)) ea ⟨dx, _, rfl, m1, m2⟩
            refine ⟨ad, CA C, dx, ws, rfl, e2, k1, k2, ?_, ?_⟩
            · have : ws.length = fs.length := by rw [← List.length_map (f := (·.1)), e3, List.length_map]
              omega
            · exact (p4 _ _ s3 R3).here (r2.next s3 R3)
          · exact p3.elim
        · exact p3.elim
      · cases h
  · cases h
theorem sl_for (c : Sc G cl cu B CA X W) {tg : List Nat} {sole : Bool} {x : E} {a : S} (ha : AllS CA X W (exS G cl a cu) (ms G X.N X.env.scope a B)) : AllS CA X W (exS G cl (.for_ tg sole x a) cu) (ms G X.N X.env.scope (.for_ tg sole x a) B) := AllS.one fun st h => by
  split at h
  · rename_i t' it' pb pos
    simp only [Bool.and_eq_true] at h
    obtain ⟨⟨⟨⟨h1, h2⟩, h3⟩, h4⟩, h5⟩ := h
    intro σ H ρ env M D rel p
    refine tm_ps (ps_for (c.own h1) (c.cc.calm h1) (pi_tm X t' it') (tgM_ok (fun _ => c.fnc h1) c.cc.nd (c.cc.calm h1) h4) (pss_tm X pb) (nset_ok h3 X.env)) ?_
    refine (all_ok (cu := cu) x X W c.cc).i t' it' h2 σ H ρ env M _ rel ((PostS.run p rel).mono fun s M1 H1 ρ1 _ s1 R1 p1 J iok => ?_)
    refine ⟨fun i m σ' H' => i ≤ s.items.length ∧ m = s.items.length - i ∧ ∃ ρ' e' M', St8 H1 ρ1 H' ρ' ∧ Rel CA X.K H' ρ' e' σ' M' ∧ PostS CA X.K W H' ρ' (forL s tg sole (exS G cl a cu) (s.items.drop i) e' M') D,
      ⟨s.items.length, Nat.zero_le _, by simp, ρ1, env, M1, St8.refl _ _, rel.next s1 R1, p1⟩, ?_⟩
    rintro i m σ' H' ⟨hi, rfl, ρ', e', M', s', rel', pp⟩
    by_cases hlt : i < s.items.length
    · rw [List.drop_eq_getElem_cons hlt] at pp
      unfold forL at pp
      by_cases st : s.stands M' = true
      · rw [if_pos st] at pp
        split at pp
        · rename_i e2 be
          have it := (iok i H' ρ' M' s' rel'.st st).1 s.items[i] (List.getElem?_eq_getElem hlt)
          refine .inr ⟨it.1, fun σ'' H'' => ∃ ρ' e' M', St8 H1 ρ1 H'' ρ' ∧ Rel CA X.K H'' ρ' e' σ'' M' ∧ PostS CA X.K W H'' ρ' (forL s tg sole (exS G cl a cu) (s.items.drop (i + 1)) e' M') D, fun σ'' H'' z => ⟨_, by omega, hlt, rfl, z⟩, fun y H'' yl => ?_⟩
          obtain ⟨rfl, rx⟩ := it.2 y H'' yl
          refine gT_ok (vs := []) rx be rel'.en fun σ2 re2 _ => ?_
          refine ha.b pb h5 σ2 H'' ρ' e2 M' _ ⟨rel'.st, re2, c.cc.sgc h1 _ _⟩ (PostS.ends (PostS.andThen pp) (fun σ3 H3 ⟨ρ3, e3, M3, s3, rel3, p3⟩ => ⟨ρ3, e3, M3, s'.trans s3, rel3, p3⟩) fun _ _ q => q)
        · exact pp.elim
      · rw [if_neg st] at pp
        exact pp.elim
    · have e : i = s.items.length := by omega
      subst e
      rw [List.drop_length] at pp
      unfold forL at pp
      by_cases st : s.stands M' = true
      · rw [if_pos st] at pp
        exact .inl ⟨(iok s.items.length H' ρ' M' s' rel'.st st).2 rfl, pp.here rel'⟩
      · rw [if_neg st] at pp
        exact pp.elim
  · cases h
theorem sl_whl (c : Sc G cl cu B CA X W) {x : E} {a : S} (ha : AllS CA X W (exS G cl a cu) (ms G X.N X.env.scope a B)) : AllS CA X W (exS G cl (.whl x a) cu) (ms G X.N X.env.scope (.whl x a) B) := AllS.one fun st h => by
  split at h
  · rename_i c' pb pos
    simp only [Bool.and_eq_true] at h
    obtain ⟨⟨h1, h2⟩, h3⟩ := h
    intro σ H ρ env M D rel p
    refine tm_ps (ps_while (c.own h1) (pt_tm X c') (pss_tm X pb)) ?_
    refine ⟨fun n σ' H' => ∃ ρ' e' M', Rel CA X.K H' ρ' e' σ' M' ∧ PostS CA X.K W H' ρ' (whlL (evT G cl cu x) (exS G cl a cu) n e' M') D, ⟨100000, ρ, env, M, rel, p⟩, ?_⟩
    rintro n σ' H' ⟨ρ', e', M', rel', pp⟩
    cases n with
    | zero => exact pp.elim
    | succ n =>
      unfold whlL at pp
      refine (all_ok (cu := cu) x X W c.cc).t c' h2 σ' H' ρ' e' M' _ rel' ((PostS.run pp rel').mono fun b M1 H1 ρ1 _ s1 R1 p1 => ?_)
      cases b with
      | false => exact p1.here (rel'.next s1 R1)
      | true =>
        refine ⟨fun σ'' H'' => ∃ ρ' e' M', Rel CA X.K H'' ρ' e' σ'' M' ∧ PostS CA X.K W H'' ρ' (whlL (evT G cl cu x) (exS G cl a cu) n e' M') D, fun σ'' H'' z => ⟨n, Nat.lt_succ_self n, z⟩, ?_⟩
        exact ha.b pb h3 σ' H1 ρ1 e' M1 _ (rel'.next s1 R1) (PostS.ends (PostS.andThen p1) (fun σ3 H3 ⟨ρ3, e3, M3, s3, rel3, p3⟩ => ⟨ρ3, e3, M3, rel3, p3⟩) fun _ _ q => q)
  · cases h
mutual
theorem RV.bare {K : PySem.W.Frag} {H : Hp} {ρ : List Addr} : ∀ (d : Dv.D) (v : V), d.und 0 = true → RV K H ρ d v → RV K H [] d v
  | .non, v, _, h => by simp only [RV] at h ⊢; exact h
  | .bl b, v, _, h => by simp only [RV] at h ⊢; exact h
  | .int i, v, _, h => by simp only [RV] at h ⊢; exact h
  | .str z, v, _, h => by simp only [RV] at h ⊢; exact h
  | .loc n, v, u, h => by simp [D.und] at u
  | .rol xs, v, _, h => by simp only [RV] at h ⊢; exact h
  | .tup ds, v, u, h => by
    simp only [RV] at h ⊢
    obtain ⟨t, vs, rfl, e, r⟩ := h
    exact ⟨t, vs, rfl, e, RVs.bare ds vs (by simpa [D.und] using u) r⟩
  | .ktp xs, v, _, h => by simp only [RV] at h ⊢; exact h
theorem RVs.bare {K : PySem.W.Frag} {H : Hp} {ρ : List Addr} : ∀ (ds : List Dv.D) (vs : List V), undL 0 ds = true → RVs K H ρ ds vs → RVs K H [] ds vs
  | [], vs, _, h => by simp only [RVs] at h ⊢; exact h
  | d :: ds, vs, u, h => by
    simp only [RVs] at h ⊢
    obtain ⟨v, r, rfl, h1, h2⟩ := h
    obtain ⟨u1, u2⟩ := Bool.and_eq_true_iff.mp (show (d.und 0 && undL 0 ds) = true from u)
    exact ⟨v, r, rfl, RV.bare d v u1 h1, RVs.bare ds r u2 h2⟩
end
theorem XR.zip {K : PySem.W.Frag} {H : Hp} {ρ : List Addr} {fs : List Str} {ds : List Dv.D} {vs : List V} {d : Addr} (r : RVs K H ρ ds vs) (l : ds.length = fs.length) (ne : fs ≠ []) (u : undL 0 ds = true) (e : H d = some (.xd (fs.zip vs).reverse)) : XR K H (fs.zip ds).reverse (some d) := by
  have lv : vs.length = fs.length := (RVs.length r).trans l
  refine ⟨fun z => ?_, _, e, fun f x h => ?_⟩
  · have z := congrArg List.length z
    rw [List.length_reverse, List.length_zip, l, Nat.min_self] at z
    exact ne (List.eq_nil_of_length_eq_zero z)
  · refine lookup_rv (fs := (fs.zip ds).reverse) ?_ ?_ h
    · rw [List.map_reverse, List.map_reverse, List.map_fst_zip (by omega), List.map_fst_zip (by omega)]
    · rw [List.map_reverse, List.map_reverse, List.map_snd_zip (by omega), List.map_snd_zip (by omega)]
      exact RVs.rev (RVs.bare ds vs u r)
theorem sl_rai (c : Sc G cl cu B CA X W) {k : Nat} {x : E} : AllS CA X W (exS G cl (.rai k x) cu) (ms G X.N X.env.scope (.rai k x) B) := AllS.one fun st h => by
  split at h
  · rename_i y yp as cp pos
    simp only [Bool.and_eq_true, decide_eq_true_eq] at h
    obtain ⟨⟨⟨⟨⟨⟨⟨hb, rfl⟩, h2⟩, h3⟩, h4⟩, h5⟩, h6⟩, h7⟩ := h
    obtain ⟨d1, d2, _⟩ := dbgB_ok h3
    cases as with
    | nil => cases h5
    | cons a r =>
      obtain ⟨n1, n2⟩ := Bool.and_eq_true_iff.mp (show (nst a && nsts r) = true from h4)
      intro σ H ρ env M D rel p
      have A := (all_ok (cu := cu) x X W c.cc).a (a :: r) h6
      have p : PostS CA X.K W H ρ (((ev G cl cu x).a env M).run env fun vs M1 => raiE G k vs env M1) D := p
      have q := PostS.run (σ := σ) p rel
      cases he : G.exi k with
      | none =>
        rw [he] at h7
        obtain ⟨g1, g2, g3, T, ni, ii, bm, F, g4⟩ := c.xrw k (by simpa using h7)
        refine tm_ps (ps_raise (c.cc.calm hb) c.cc.tk (pmk_ownA F g4 g1 g2 g3 (gl_of h2) (pa_tm X (a :: r)) d1 (nst_ok n1 r X.env) (plain_ok n2 _ X.env))) ?_
        refine A σ H ρ env M _ rel (q.mono fun ds M1 H1 ρ1 _ s1 R1 p1 vs hv => ?_)
        unfold raiE at p1
        rw [he] at p1
        simp only at p1
        by_cases l : ds.length = 1
        · rw [if_pos l] at p1
          refine ⟨by rw [RVs.length hv, l, PySem.sizeLine_eq]; omega, p1 none σ H1 ρ1 (St8.refl _ _) (rel.next s1 R1) rfl⟩
        · rw [if_neg l] at p1
          exact p1.elim
      | some fs =>
        refine tm_ps (ps_raise (c.cc.calm hb) c.cc.tk (c.xmk hb k fs he X.pn X.xe W c.cc.tk a r _ _ _ (pa_tm X (a :: r)) h4 (gl_of h2) d1)) ?_
        refine A σ H ρ env M _ rel (q.mono fun ds M1 H1 ρ1 _ s1 R1 p1 vs hv => ?_)
        unfold raiE at p1
        rw [he] at p1
        simp only at p1
        by_cases l : ds.length = fs.length ∧ fs ≠ [] ∧ undL 0 ds = true
        · rw [if_pos l] at p1
          refine ⟨(RVs.length hv).trans l.1, fun d hd => ?_⟩
          have s2 : St8 H1 ρ1 (upd H1 d (.xd (fs.zip vs).reverse)) ρ1 := St8.lay hd
          have R2 : RS CA X.K (upd H1 d (.xd (fs.zip vs).reverse)) ρ1 M1 := R1.lay hd
          exact p1 (some d) σ _ ρ1 s2 ((rel.next s1 R1).next s2 R2) (XR.zip (RVs.mono R1 s2 _ _ hv) l.1 l.2.1 l.2.2 upd_same)
        · rw [if_neg l] at p1
          exact p1.elim
  · cases h
end
theorem Kp.of {H H' : Hp} {ρ ρ' : List Addr} (s : St8 H ρ H' ρ') (c : ∀ p, p ∈ ρ → ∃ o, H p = some o ∧ (∀ fs, o ≠ .xd fs) ∧ (∀ xs, o ≠ .tup xs) ∧ ∀ ob u, o ≠ .frz ob u) : Kp H H' where
  t := fun a xs e => s.frm _ _ e fun m => by
    obtain ⟨o, e', _, h, _⟩ := c a m
    rw [e] at e'
    cases e'
    exact h _ rfl
  f := fun a ob u e => s.frm _ _ e fun m => by
    obtain ⟨o, e', _, _, h⟩ := c a m
    rw [e] at e'
    cases e'
    exact h _ _ rfl
theorem XR.keep {K : PySem.W.Frag} {H H' : Hp} {ρ ρ' : List Addr} {fs : List (Str × D)} {d : Option Addr} (s : St8 H ρ H' ρ') (c : ∀ p, p ∈ ρ → ∃ o, H p = some o ∧ (∀ fs, o ≠ .xd fs) ∧ (∀ xs, o ≠ .tup xs) ∧ ∀ ob u, o ≠ .frz ob u) (x : XR K H fs d) : XR K H' fs d := by
  cases d with
  | none => exact x
  | some d =>
    obtain ⟨ne, ws, e, h⟩ := x
    refine ⟨ne, ws, s.frm _ _ e fun m => ?_, fun f y hy => ?_⟩
    · obtain ⟨o, e', h, _⟩ := c d m
      rw [e] at e'
      cases e'
      exact h _ rfl
    · obtain ⟨v, e1, e2⟩ := h f y hy
      exact ⟨v, e1, RV.keep (Kp.of s c) (List.prefix_refl _) _ _ e2⟩
/-- what is known of the slots in a suite -/
def Ca.held (CA : Ca) (K : PySem.W.Frag) (i : Nat) (a : Addr) (fs : List (Str × D)) (d : Option Addr) : Ca where
  a := CA.a
  sg := fun σ H => σ[i]? = some (some (.ref a)) ∧ XR K H fs d
  mono := fun s c h => ⟨h.1, XR.keep s c h.2⟩
theorem RE.hole {K : PySem.W.Frag} {H : Hp} {ρ : List Addr} {e : Env} {σ : L2.St} (r : RE K H ρ e σ) (i : Nat) (x : Option V) : RE K H ρ (e.set i none) (σ.set i x) := by
  refine ⟨by simp [r.1], fun j y hy => ?_⟩
  by_cases hj : i = j
  · subst hj
    by_cases hi : i < e.length
    · rw [List.getElem?_set_self hi] at hy
      cases hy
    · rw [List.getElem?_eq_none (by simpa using hi)] at hy
      cases hy
  · rw [List.getElem?_set_ne hj] at hy ⊢
    exact r.2 j y hy
section
variable {CA : Ca} {X : Cx} {W : WX} {G : Gl} {cl : Cl} {B : Tb} {cu : Option (Nat × List (Str × D))}
theorem Sc.tr (c : Sc G cl cu B CA X W) (hb : B.cm = true) {W' : WX} {pn : List (Addr × Obj)} {xe : Value → Shared → Prop} (tk : Takes (X.tr pn xe) W') (po : PassesOwn (model X.prog X.w) X.A X.env xe) : Sc G cl cu B CA (X.tr pn xe) W' where
  cc := {
    nd := c.cc.nd
    tk := tk
    un := c.cc.un
    calm := c.cc.calm
    kind := c.cc.kind
    bln := c.cc.bln
    tyn := c.cc.tyn
    rgn := c.cc.rgn
    isn := c.cc.isn
    con := c.cc.con
    fns := c.cc.fns
    mth := c.cc.mth
    mak := c.cc.mak
    fld := c.cc.fld
    sgc := c.cc.sgc
    cuc := c.cc.cuc
    xcl := c.cc.xcl
    xsb := c.cc.xsb
    xfl := c.cc.xfl
    xc := fun k fs e => by rw [c.cc.cuc hb] at e; cases e }
  own := fun _ => po
  fnc := c.fnc
  stk := c.stk
  frm := c.frm
  xrw := c.xrw
  xmk := c.xmk
theorem Sc.held (c : Sc G cl cu B CA X W) {k i : Nat} {fs : List (Str × D)} (hk : G.isc k = true) {a : Addr} {oe : Obj} {d : Option Addr} {pn : List (Addr × Obj)} (hz : Zc (.ref (CA k)) d oe) (hf : ∃ vs, oe.data = .fields vs) :
    Sc G cl (some (k, fs)) { B with cm := false, xi := i } (CA.held X.K i a fs d) (X.suite a ((a, oe) :: pn)) W0 where
  cc := {
    nd := c.cc.nd
    tk := takes_none5
    un := c.cc.un
    calm := fun z => by cases z
    kind := c.cc.kind
    bln := c.cc.bln
    tyn := c.cc.tyn
    rgn := c.cc.rgn
    isn := c.cc.isn
    con := c.cc.con
    fns := fun z => by cases z
    mth := fun z => by cases z
    mak := fun z => by cases z
    fld := c.cc.fld
    sgc := fun z => by cases z
    cuc := fun z => by cases z
    xcl := c.cc.xcl
    xsb := c.cc.xsb
    xfl := c.cc.xfl
    xc := fun k' fs' e => by
      cases e
      exact ⟨hk, a, oe, d, pn, X, rfl, hz, hf, fun σ H h => h⟩ }
  own := fun z => by cases z
  fnc := fun z => by cases z
  stk := c.stk
  frm := c.frm
  xrw := c.xrw
  xmk := fun z => by cases z
theorem Sc.bare (c : Sc G cl cu B CA X W) {i : Nat} {a : Addr} {oe : Obj} {pn : List (Addr × Obj)} :
    Sc G cl none { B with cm := false, xi := i } CA (X.suite a ((a, oe) :: pn)) W0 where
  cc := {
    nd := c.cc.nd
    tk := takes_none5
    un := c.cc.un
    calm := fun z => by cases z
    kind := c.cc.kind
    bln := c.cc.bln
    tyn := c.cc.tyn
    rgn := c.cc.rgn
    isn := c.cc.isn
    con := c.cc.con
    fns := fun z => by cases z
    mth := fun z => by cases z
    mak := fun z => by cases z
    fld := c.cc.fld
    sgc := fun z => by cases z
    cuc := fun z => by cases z
    xcl := c.cc.xcl
    xsb := c.cc.xsb
    xfl := c.cc.xfl
    xc := fun k' fs' e => by cases e }
  own := fun z => by cases z
  fnc := fun z => by cases z
  stk := c.stk
  frm := c.frm
  xrw := c.xrw
  xmk := fun z => by cases z
theorem sl_tri (c : Sc G cl cu B CA X W) {body suite : S} {k : Nat} {nm : Option Nat}
    (hbody : ∀ (W' : WX) (pn : List (Addr × Obj)) (xe : Value → Shared → Prop), Sc G cl cu B CA (X.tr pn xe) W' → AllS CA (X.tr pn xe) W' (exS G cl body cu) (ms G X.N X.env.scope body B))
    (hsuite : ∀ (cu' : Option (Nat × List (Str × D))) (B' : Tb) (CA' : Ca) (X' : Cx) (W' : WX), Sc G cl cu' B' CA' X' W' → AllS CA' X' W' (exS G cl suite cu') (ms G X'.N X'.env.scope suite B')) :
    AllS CA X W (exS G cl (.tri body k nm suite) cu) (ms G X.N X.env.scope (.tri body k nm suite) B) := AllS.one fun st h => by
  split at h
  · rename_i pb x xp n b0 q hp pos
    simp only [Bool.and_eq_true, decide_eq_true_eq] at h
    obtain ⟨⟨⟨⟨⟨⟨hb, rfl⟩, h2⟩, h3⟩, h4⟩, h5⟩, h6⟩ := h
    obtain ⟨d1, d2, _⟩ := dbgB_ok h3
    have nam : Names X (B.cn k) (.ref (CA k)) := ⟨gl_of h2, d1, .inl (c.cc.xcl k h4).1⟩
    intro σ H ρ env M D rel p
    have p : PostS CA X.K W H ρ (match (generalizing := false) exS G cl body cu env M with
      | .exc j fs e1 M1 => if G.isc j = true then
          if G.sub j k = true then endTry nm (exS G cl suite (match (generalizing := false) nm with | some _ => some (j, fs) | none => none) (match (generalizing := false) nm with | some i => e1.set i none | none => e1) M1) else .exc j fs e1 M1
        else .bad
      | r => r) D := p
    have tbl : ∀ W' : WX, ∀ (pn : List (Addr × Obj)) (xe : Value → Shared → Prop), Takes (X.tr pn xe) W' → PassesOwn (model X.prog X.w) X.A X.env xe → PSs (X.tr pn xe) pb (fun D σ H => ∀ (pn : List (Addr × Obj)) (xe : Value → Shared → Prop), Takes (X.tr pn xe) W' → PassesOwn (model X.prog X.w) X.A X.env xe → TMB (X.tr pn xe) pb D σ H) :=
      fun W' pn xe tk po => ⟨fun pins s σ H D I h => h pn xe tk po pins s I⟩
    have tsl : ∀ (a : Addr) (oe : Obj) (cls : Value) (d : Option Addr) (pn : List (Addr × Obj)), Zc cls d oe → (∃ vs, oe.data = .fields vs) → PSs (X.suite a ((a, oe) :: pn)) (b0 :: q) (fun D σ H => ∀ (oe : Obj) (pn : List (Addr × Obj)), Zc cls d oe → (∃ vs, oe.data = .fields vs) → TMB (X.suite a ((a, oe) :: pn)) (b0 :: q) D σ H) :=
      fun a oe cls d pn hz hf => ⟨fun pins s σ H D I h => h oe pn hz hf pins s I⟩
    cases nm with
    | some i =>
      simp only at h6
      cases n with
      | none => cases h6
      | some n =>
        simp only [Bool.and_eq_true, decide_eq_true_eq] at h6
        obtain ⟨⟨e1, e2⟩, e3⟩ := h6
        refine tm_ps (ps_try_as (ts := fun a cls d D σ H => ∀ (oe : Obj) (pn : List (Addr × Obj)), Zc cls d oe → (∃ vs, oe.data = .fields vs) → TMB (X.suite a ((a, oe) :: pn)) (b0 :: q) D σ H) c.stk c.frm c.cc.nd e1 (locB_ok e2) nam c.cc.tk tbl tsl) ?_
        intro pn xe tk po
        refine (hbody _ pn xe (c.tr hb tk po)).b pb h5 σ H ρ env M D rel ?_
        cases hr : exS G cl body cu env M with
        | nx e M1 => rw [hr] at p; exact p
        | rt d M1 => rw [hr] at p; exact p
        | bad => rw [hr] at p; exact p
        | exc j fs e1' M1 =>
          rw [hr] at p
          simp only at p
          by_cases hj : G.isc j = true
          · rw [if_pos hj] at p
            intro dd σ' H' ρ' s' rel' xr
            refine ⟨G.sub j k, (c.cc.xsb j k hj h4).2, fun hs a ha oe pn hz hf pins s I => ?_, fun hs => ?_⟩
            · rw [if_pos hs] at p
              have len : i < (σ'.set i (some (.ref a))).length := by
                rw [I.len]
                exact (List.getElem?_eq_some_iff.mp e1).1
              have len : i < σ'.length := by simpa using len
              refine (hsuite _ _ _ _ _ (c.held (fs := fs) (i := i) (a := a) hj hz hf)).b (b0 :: q) e3 _ H' ρ' (e1'.set i none) M1 _ ⟨rel'.st, rel'.en.hole i _, List.getElem?_set_self len, xr⟩ ?_ pins s I
              have p := p.step s'
              revert p
              show PostS CA X.K W H' ρ' (endTry (some i) (exS G cl suite (some (j, fs)) (e1'.set i none) M1)) D → _
              cases exS G cl suite (some (j, fs)) (e1'.set i none) M1 with
              | nx e2 M2 => exact fun p σ2 H2 ρ2 s2 r2 => p (σ2.set i none) H2 ρ2 s2 ⟨r2.st, r2.en.unset i, c.cc.sgc hb _ _⟩
              | rt d M2 => exact fun p => p
              | exc _ _ _ _ => exact fun p => p.elim
              | bad => exact fun p => p
            · rw [if_neg (by rw [hs]; decide)] at p
              exact p dd σ' H' ρ' s' rel' xr
          · rw [if_neg hj] at p
            exact p.elim
    | none =>
      simp only [Bool.and_eq_true] at h6
      obtain ⟨e1, e3⟩ := h6
      cases n with
      | some n => cases e1
      | none =>
        refine tm_ps (ps_try_only (ts := fun a cls d D σ H => ∀ (oe : Obj) (pn : List (Addr × Obj)), Zc cls d oe → (∃ vs, oe.data = .fields vs) → TMB (X.suite a ((a, oe) :: pn)) (b0 :: q) D σ H) c.stk c.frm nam c.cc.tk tbl tsl) ?_
        intro pn xe tk po
        refine (hbody _ pn xe (c.tr hb tk po)).b pb h5 σ H ρ env M D rel ?_
        cases hr : exS G cl body cu env M with
        | nx e M1 => rw [hr] at p; exact p
        | rt d M1 => rw [hr] at p; exact p
        | bad => rw [hr] at p; exact p
        | exc j fs e1' M1 =>
          rw [hr] at p
          simp only at p
          by_cases hj : G.isc j = true
          · rw [if_pos hj] at p
            intro dd σ' H' ρ' s' rel' xr
            refine ⟨G.sub j k, (c.cc.xsb j k hj h4).2, fun hs a ha oe pn hz hf pins s I => ?_, fun hs => ?_⟩
            · rw [if_pos hs] at p
              refine (hsuite _ _ _ _ _ (c.bare (i := X.N.length) (a := a))).b (b0 :: q) e3 _ H' ρ' e1' M1 _ rel' ?_ pins s I
              have p := p.step s'
              revert p
              show PostS CA X.K W H' ρ' (endTry none (exS G cl suite none e1' M1)) D → _
              cases exS G cl suite none e1' M1 with
              | nx e2 M2 => exact fun p => p
              | rt d M2 => exact fun p => p
              | exc _ _ _ _ => exact fun p => p.elim
              | bad => exact fun p => p
            · rw [if_neg (by rw [hs]; decide)] at p
              exact p dd σ' H' ρ' s' rel' xr
          · rw [if_neg hj] at p
            exact p.elim
  · cases h
end
/-- every statement -/
theorem stm_ok {G : Gl} {cl : Cl} : ∀ (x : S) (CA : Ca) (X : Cx) (W : WX) (B : Tb) (cu : Option (Nat × List (Str × D))), Sc G cl cu B CA X W → AllS CA X W (exS G cl x cu) (ms G X.N X.env.scope x B)
  | .nil, CA, X, W, B, cu, c => sl_nil
  | .cons x y, CA, X, W, B, cu, c => sl_cons (stm_ok x CA X W B cu c) (stm_ok y CA X W B cu c)
  | .asg _ _, CA, X, W, B, cu, c => sl_asg c
  | .ex _, CA, X, W, B, cu, c => sl_ex c
  | .ret _, CA, X, W, B, cu, c => sl_ret c
  | .retN, CA, X, W, B, cu, c => sl_retN
  | .pas, CA, X, W, B, cu, c => sl_pas
  | .ite _ x y, CA, X, W, B, cu, c => sl_ite c (stm_ok x CA X W B cu c) (stm_ok y CA X W B cu c)
  | .for_ _ _ _ x, CA, X, W, B, cu, c => sl_for c (stm_ok x CA X W B cu c)
  | .whl _ x, CA, X, W, B, cu, c => sl_whl c (stm_ok x CA X W B cu c)
  | .rai _ _, CA, X, W, B, cu, c => sl_rai c
  | .tri x _ _ y, CA, X, W, B, cu, c => sl_tri c (fun W' pn xe c' => stm_ok x CA (X.tr pn xe) W' B cu c') (fun cu' B' CA' X' W' c' => stm_ok y CA' X' W' B' cu' c')
end Dv
end

section
set_option Elab.async false
set_option autoImplicit false
set_option linter.all false
set_option maxRecDepth 100000
set_option maxHeartbeats 4000000
/-! DvP: defs. -/
namespace Dv
open PySem L2
/-! ### what a call leaves -/
section
variable {K : PySem.W.Frag} {H : Hp} {ρ ρ' : List Addr} {n : Nat} {f : Nat → Nat}
mutual
/-- renumbered, where each of its numbers goes -/
theorem RV.ren (hf : ∀ k a, k < n → ρ[k]? = some a → f k = k ∧ ρ'[k]? = some a) : ∀ (d : D) (v : V), (∀ k ∈ d.locs n, ∀ a, ρ[k]? = some a → ρ'[f k]? = some a) → RV K H ρ d v → RV K H ρ' (d.ren f) v
  | .non, v, _, h => by simp only [RV, D.ren] at h ⊢; exact h
  | .bl b, v, _, h => by simp only [RV, D.ren] at h ⊢; exact h
  | .int i, v, _, h => by simp only [RV, D.ren] at h ⊢; exact h
  | .str z, v, _, h => by simp only [RV, D.ren] at h ⊢; exact h
  | .loc k, v, l, h => by
    simp only [RV, D.ren] at h ⊢
    obtain ⟨a, e, rfl⟩ := h
    by_cases hk : k < n
    · obtain ⟨e1, e2⟩ := hf k a hk e
      exact ⟨a, by rw [e1]; exact e2, rfl⟩
    · exact ⟨a, l k (by simp [D.locs, hk]) a e, rfl⟩
  | .rol xs, v, _, h => by simp only [RV, D.ren] at h ⊢; exact h
  | .ktp xs, v, _, h => by simp only [RV, D.ren] at h ⊢; exact h
  | .tup ds, v, l, h => by
    simp only [RV, D.ren] at h ⊢
    obtain ⟨t, vs, rfl, e, r⟩ := h
    exact ⟨t, vs, rfl, e, RVs.ren hf ds vs (fun k hk => l k (by simpa [D.locs] using hk)) r⟩
theorem RVs.ren (hf : ∀ k a, k < n → ρ[k]? = some a → f k = k ∧ ρ'[k]? = some a) : ∀ (ds : List D) (vs : List V), (∀ k ∈ locsL n ds, ∀ a, ρ[k]? = some a → ρ'[f k]? = some a) → RVs K H ρ ds vs → RVs K H ρ' (renL f ds) vs
  | [], vs, _, h => by simp only [RVs, renL] at h ⊢; exact h
  | d :: ds, vs, l, h => by
    simp only [RVs, renL] at h ⊢
    obtain ⟨v, r, rfl, h1, h2⟩ := h
    exact ⟨v, r, rfl, RV.ren hf d v (fun k hk => l k (by simp [locsL, hk])) h1, RVs.ren hf ds r (fun k hk => l k (by simp [locsL, hk])) h2⟩
end
mutual
theorem RV.low (hp : ∀ k a, k < n → ρ[k]? = some a → ρ'[k]? = some a) : ∀ (d : D) (v : V), d.und n = true → RV K H ρ d v → RV K H ρ' d v
  | .non, v, _, h => by simp only [RV] at h ⊢; exact h
  | .bl b, v, _, h => by simp only [RV] at h ⊢; exact h
  | .int i, v, _, h => by simp only [RV] at h ⊢; exact h
  | .str z, v, _, h => by simp only [RV] at h ⊢; exact h
  | .loc k, v, u, h => by
    simp only [RV] at h ⊢
    obtain ⟨a, e, rfl⟩ := h
    exact ⟨a, hp k a (by simpa [D.und] using u) e, rfl⟩
  | .rol xs, v, _, h => by simp only [RV] at h ⊢; exact h
  | .ktp xs, v, _, h => by simp only [RV] at h ⊢; exact h
  | .tup ds, v, u, h => by
    simp only [RV] at h ⊢
    obtain ⟨t, vs, rfl, e, r⟩ := h
    exact ⟨t, vs, rfl, e, RVs.low hp ds vs (by simpa [D.und] using u) r⟩
theorem RVs.low (hp : ∀ k a, k < n → ρ[k]? = some a → ρ'[k]? = some a) : ∀ (ds : List D) (vs : List V), undL n ds = true → RVs K H ρ ds vs → RVs K H ρ' ds vs
  | [], vs, _, h => by simp only [RVs] at h ⊢; exact h
  | d :: ds, vs, u, h => by
    simp only [RVs] at h ⊢
    obtain ⟨v, r, rfl, h1, h2⟩ := h
    obtain ⟨u1, u2⟩ := Bool.and_eq_true_iff.mp (show (d.und n && undL n ds) = true from u)
    exact ⟨v, r, rfl, RV.low hp d v u1 h1, RVs.low hp ds r u2 h2⟩
end
mutual
/-- what stands names what stands -/
theorem RV.und (hl : ρ.length ≤ n) : ∀ (d : D) (v : V), RV K H ρ d v → d.und n = true
  | .non, v, _ => rfl
  | .bl b, v, _ => rfl
  | .int i, v, _ => rfl
  | .str z, v, _ => rfl
  | .loc k, v, h => by
    simp only [RV] at h
    obtain ⟨a, e, rfl⟩ := h
    simp only [D.und, decide_eq_true_eq]
    exact Nat.lt_of_lt_of_le (List.getElem?_eq_some_iff.mp e).1 hl
  | .rol xs, v, _ => rfl
  | .ktp xs, v, _ => rfl
  | .tup ds, v, h => by
    simp only [RV] at h
    obtain ⟨t, vs, rfl, e, r⟩ := h
    simp only [D.und]
    exact RVs.und hl ds vs r
theorem RVs.und (hl : ρ.length ≤ n) : ∀ (ds : List D) (vs : List V), RVs K H ρ ds vs → undL n ds = true
  | [], vs, _ => rfl
  | d :: ds, vs, h => by
    simp only [RVs] at h
    obtain ⟨v, r, rfl, h1, h2⟩ := h
    simp only [undL, RV.und hl d v h1, RVs.und hl ds r h2, Bool.and_self]
end
end
theorem undL_all {n : Nat} : ∀ {ds : List D}, undL n ds = ds.all (D.und n)
  | [] => rfl
  | d :: ds => by rw [undL, undL_all]; rfl
theorem Ob.und_eq (n : Nat) (o : Ob) : o.und n = undL n (match o with | .lst xs => xs | .dct kvs => kvs.map (·.2) | .dtt kvs => kvs.map (·.2) | .ins _ fs => fs.map (·.2)) := by
  cases o <;> simp [Ob.und, undL_all, List.all_map, Function.comp_def]
section
variable {CA : Nat → Addr} {K : PySem.W.Frag} {H : Hp} {ρ ρ' : List Addr} {n : Nat} {f : Nat → Nat}
theorem RO.low (hp : ∀ k a, k < n → ρ[k]? = some a → ρ'[k]? = some a) {o : Ob} {h : HO} (u : o.und n = true) (x : RO CA K H ρ o h) : RO CA K H ρ' o h := by
  rw [Ob.und_eq] at u
  cases o with
  | lst ds => obtain ⟨vs, e, r⟩ := x; exact ⟨vs, e, RVs.low hp _ _ u r⟩
  | dct kvs => obtain ⟨vs, e, e2, r⟩ := x; exact ⟨vs, e, e2, RVs.low hp _ _ u r⟩
  | dtt kvs => obtain ⟨vs, e, e2, r⟩ := x; exact ⟨vs, e, e2, RVs.low hp _ _ u r⟩
  | ins c fs => obtain ⟨dx, vs, e, e2, r⟩ := x; exact ⟨dx, vs, e, e2, RVs.low hp _ _ u r⟩
theorem RO.und (hl : ρ.length ≤ n) {o : Ob} {h : HO} (x : RO CA K H ρ o h) : o.und n = true := by
  rw [Ob.und_eq]
  cases o with
  | lst ds => obtain ⟨vs, e, r⟩ := x; exact RVs.und hl _ _ r
  | dct kvs => obtain ⟨vs, e, e2, r⟩ := x; exact RVs.und hl _ _ r
  | dtt kvs => obtain ⟨vs, e, e2, r⟩ := x; exact RVs.und hl _ _ r
  | ins c fs => obtain ⟨dx, vs, e, e2, r⟩ := x; exact RVs.und hl _ _ r
theorem renL_map : ∀ (ds : List D), renL f ds = ds.map (D.ren f)
  | [] => rfl
  | d :: ds => by rw [renL, renL_map]; rfl
theorem RO.ren (hf : ∀ k a, k < n → ρ[k]? = some a → f k = k ∧ ρ'[k]? = some a) {o : Ob} {h : HO} (l : ∀ k ∈ o.locs n, ∀ a, ρ[k]? = some a → ρ'[f k]? = some a) (x : RO CA K H ρ o h) : RO CA K H ρ' (o.ren f) h := by
  cases o with
  | lst ds => obtain ⟨vs, e, r⟩ := x; exact ⟨vs, e, RVs.ren hf _ _ l r⟩
  | dct kvs =>
    obtain ⟨vs, e, e2, r⟩ := x
    have q := RVs.ren hf _ _ l r
    refine ⟨vs, e, by rw [e2, List.map_map]; rfl, ?_⟩
    rw [renL_map, List.map_map] at q
    rw [List.map_map]
    exact q
  | dtt kvs =>
    obtain ⟨vs, e, e2, r⟩ := x
    have q := RVs.ren hf _ _ l r
    refine ⟨vs, e, by rw [e2, List.map_map]; rfl, ?_⟩
    rw [renL_map, List.map_map] at q
    rw [List.map_map]
    exact q
  | ins c fs =>
    obtain ⟨dx, vs, e, e2, r⟩ := x
    have q := RVs.ren hf _ _ l r
    refine ⟨dx, vs, e, by rw [e2, List.map_map]; rfl, ?_⟩
    rw [renL_map, List.map_map] at q
    rw [List.map_map]
    exact q
end
section
variable {CA : Nat → Addr} {K : PySem.W.Frag} {H H' : Hp} {ρ ρ' : List Addr} {M M1 : Store}
open Classical in
theorem old_und (R : RS CA K H ρ M) (o : oldOk M M1 = true) : M.length ≤ M1.length ∧ ∀ i o, i < M.length → M1[i]? = some o → o.und M.length = true := by
  unfold oldOk at o
  have o := of_decide_eq_true o
  refine ⟨o.1, fun i ob hi e => ?_⟩
  rcases o.2 i ob hi e with h | h
  · obtain ⟨a, u, _, _, x⟩ := R.at_ i ob h
    exact RO.und (Nat.le_of_eq R.len) x
  · exact h
theorem St8.cut (R : RS CA K H ρ M) (s : St8 H ρ H' ρ') (R1 : RS CA K H' ρ' M1) (o : oldOk M M1 = true) : ρ'.take M.length = ρ ∧ St8 H ρ H' ρ ∧ RS CA K H' ρ (M1.take M.length) := by
  obtain ⟨l, u⟩ := old_und R o
  obtain ⟨t, e⟩ := s.pre
  have e1 : ρ'.take M.length = ρ := by rw [← e, ← R.len, List.take_left]
  have hp : ∀ k a, k < M.length → ρ'[k]? = some a → ρ[k]? = some a := fun k a hk h => by
    rw [← e1, List.getElem?_take_of_lt hk]
    exact h
  refine ⟨e1, ⟨List.prefix_refl _, s.frm, fun a h => .inl h⟩, by simp [R.len, l], R.nd, fun i ob h => ?_⟩
  have hi : i < M.length := by
    have := (List.getElem?_eq_some_iff.mp h).1
    simp at this
    omega
  rw [List.getElem?_take_of_lt hi] at h
  obtain ⟨a, w, e2, e3, x⟩ := R1.at_ i ob h
  exact ⟨a, w, hp i a hi e2, e3, RO.low hp (u i ob hi h) x⟩
theorem nodup_fm {α β : Type} {g : α → Option β} : ∀ {L : List α}, L.Nodup → (∀ i j a, g i = some a → g j = some a → i = j) → (L.filterMap g).Nodup
  | [], _, _ => by simp
  | m :: L, h, inj => by
    obtain ⟨h1, h2⟩ := List.nodup_cons.mp h
    rw [List.filterMap_cons]
    split
    · exact nodup_fm h2 inj
    · rename_i b e
      refine List.nodup_cons.mpr ⟨fun hm => ?_, nodup_fm h2 inj⟩
      obtain ⟨j, hj, e2⟩ := List.mem_filterMap.mp hm
      exact h1 (inj _ _ _ e e2 ▸ hj)
theorem idx_get {R : List Nat} {k : Nat} (h : k ∈ R) : R[R.idxOf k]? = some k := by
  have := List.idxOf_lt_length_of_mem h
  rw [List.getElem?_eq_getElem this]
  simp
theorem fin_ok {d : D} {v : V} {Q : VK} {E : XK} (R : RS CA K H ρ M) (s : St8 H ρ H' ρ') (R1 : RS CA K H' ρ' M1) (hv : RV K H' ρ' d v) (p : PostC CA K H ρ (fin M d M1) Q E) : Q v H' := by
  unfold fin at p
  by_cases o : oldOk M M1 = true
  · rw [if_pos o] at p
    simp only at p
    generalize hR : grow M.length M1 (grow M.length M1 (d.locs M.length).eraseDups) = T at p
    by_cases k : (keepsR M.length M1 T && (d.locs M.length).all fun k => T.contains k) = true
    · rw [if_pos k] at p
      obtain ⟨l, u⟩ := old_und R o
      obtain ⟨k1, k2⟩ := Bool.and_eq_true_iff.mp k
      obtain ⟨k1, k3⟩ := Bool.and_eq_true_iff.mp k1
      have nd : T.Nodup := of_decide_eq_true k1
      obtain ⟨e1, s1, R2⟩ := St8.cut R s R1 o
      have hT : ∀ m ∈ T, M.length ≤ m ∧ ∃ ob, M1[m]? = some ob ∧ ∀ k ∈ ob.locs M.length, k ∈ T := fun m hm => by
        obtain ⟨q1, q2⟩ := Bool.and_eq_true_iff.mp (List.all_eq_true.mp k3 m hm)
        refine ⟨of_decide_eq_true q1, ?_⟩
        split at q2
        · rename_i ob e
          exact ⟨ob, e, fun k hk => by simpa using List.all_eq_true.mp q2 k hk⟩
        · cases q2
      have hA : ∀ m ∈ T, ∃ a, ρ'[m]? = some a := fun m hm => by
        obtain ⟨_, ob, e, _⟩ := hT m hm
        obtain ⟨a, _, e2, _⟩ := R1.at_ m ob e
        exact ⟨a, e2⟩
      generalize hn : M.length = n at *
      have mapT : ∀ {α : Type} (g : Nat → Option α) (L : List Nat), (∀ m ∈ L, ∃ a, g m = some a) → ∀ j : Nat, (L.filterMap g)[j]? = (L[j]?).bind g := by
        intro α g L
        induction L with
        | nil => intro _ j; simp
        | cons m L ih =>
          intro h j
          obtain ⟨a, ea⟩ := h m List.mem_cons_self
          rw [List.filterMap_cons_some ea]
          cases j with
          | zero => simp [ea]
          | succ j => simpa using ih (fun m hm => h m (List.mem_cons_of_mem _ hm)) j
      have lenT : ∀ {α : Type} (g : Nat → Option α) (L : List Nat), (∀ m ∈ L, ∃ a, g m = some a) → (L.filterMap g).length = L.length := by
        intro α g L
        induction L with
        | nil => intro _; rfl
        | cons m L ih =>
          intro h
          obtain ⟨a, ea⟩ := h m List.mem_cons_self
          rw [List.filterMap_cons_some ea, List.length_cons, List.length_cons, ih fun m hm => h m (List.mem_cons_of_mem _ hm)]
      have lρ : ρ.length = n := by rw [R.len]; exact hn
      have low : ∀ k a, k < n → ρ'[k]? = some a → (ρ ++ T.filterMap fun m => ρ'[m]?)[k]? = some a := fun k a hk h => by
        rw [List.getElem?_append_left (by omega), ← e1, List.getElem?_take_of_lt hk]
        exact h
      have high : ∀ k ∈ T, ∀ a, ρ'[k]? = some a → (ρ ++ T.filterMap fun m => ρ'[m]?)[renF n T k]? = some a := fun k hk a h => by
        unfold renF
        rw [if_neg (by have := (hT k hk).1; omega), List.getElem?_append_right (by omega), lρ, Nat.add_sub_cancel_left, mapT _ _ hA, idx_get hk]
        exact h
      have hf : ∀ k a, k < n → ρ'[k]? = some a → renF n T k = k ∧ (ρ ++ T.filterMap fun m => ρ'[m]?)[k]? = some a := fun k a hk h => ⟨by unfold renF; rw [if_pos hk], low k a hk h⟩
      have s2 : St8 H ρ H' (ρ ++ T.filterMap fun m => ρ'[m]?) := ⟨⟨_, rfl⟩, s.frm, fun a m => by
        rcases List.mem_append.mp m with m | m
        · exact .inl m
        · obtain ⟨j, _, e⟩ := List.mem_filterMap.mp m
          exact s.new a (List.mem_of_getElem? e)⟩
      have hM : ∀ m ∈ T, ∃ a, ((M1[m]?).map fun o => o.ren (renF n T)) = some a := fun m hm => by
        obtain ⟨_, ob, e, _⟩ := hT m hm
        exact ⟨_, by rw [e]; rfl⟩
      have R3 : RS CA K H' (ρ ++ T.filterMap fun m => ρ'[m]?) (M1.take n ++ T.filterMap fun m => (M1[m]?).map fun o => o.ren (renF n T)) := by
        refine ⟨?_, ?_, fun i ob h => ?_⟩
        · rw [List.length_append, List.length_append, lenT _ _ hA, lenT _ _ hM, lρ, List.length_take]
          omega
        · rw [List.nodup_append]
          refine ⟨R.nd, ?_, fun a ha b hb => ?_⟩
          · refine nodup_fm nd fun i j a h1 h2 => ?_
            have h1 : ρ'[i]? = some a := h1
            have h2 : ρ'[j]? = some a := h2
            obtain ⟨i1, i2⟩ := List.getElem?_eq_some_iff.mp h1
            obtain ⟨j1, j2⟩ := List.getElem?_eq_some_iff.mp h2
            exact (List.getElem_inj R1.nd).mp (i2.trans j2.symm)
          · rintro rfl
            obtain ⟨j, hj, e⟩ := List.mem_filterMap.mp hb
            obtain ⟨i, hi, ei⟩ := List.mem_iff_getElem.mp ha
            have h1 : ρ'[i]? = some a := prefix_get s.pre (by rw [List.getElem?_eq_getElem hi, ei])
            obtain ⟨i1, i2⟩ := List.getElem?_eq_some_iff.mp h1
            obtain ⟨j1, j2⟩ := List.getElem?_eq_some_iff.mp e
            have := (List.getElem_inj R1.nd).mp (i2.trans j2.symm)
            have := (hT j hj).1
            omega
        · by_cases hi : i < n
          · rw [List.getElem?_append_left (by rw [List.length_take]; omega), List.getElem?_take_of_lt hi] at h
            obtain ⟨a, w, e2, e3, x⟩ := R1.at_ i ob h
            exact ⟨a, w, low i a hi e2, e3, RO.low low (u i ob hi h) x⟩
          · have lt : (M1.take n).length = n := by rw [List.length_take]; omega
            rw [List.getElem?_append_right (by omega), lt, mapT _ _ hM] at h
            cases hm : T[i - n]? with
            | none => rw [hm] at h; cases h
            | some m =>
              rw [hm] at h
              have mT := List.mem_of_getElem? hm
              obtain ⟨_, o2, e, cl⟩ := hT m mT
              have h : ((M1[m]?).map fun o => o.ren (renF n T)) = some ob := h
              rw [e] at h
              cases h
              obtain ⟨a, w, e2, e3, x⟩ := R1.at_ m o2 e
              refine ⟨a, w, ?_, e3, RO.ren hf (fun k hk a h => high k (cl k hk) a h) x⟩
              rw [List.getElem?_append_right (by omega), lρ, mapT _ _ hA, hm]
              exact e2
      exact p v H' _ s2 R3 (RV.ren hf d v (fun k hk a h => high k (by simpa using List.all_eq_true.mp k2 k hk) a h) hv)
    · rw [if_neg k] at p
      exact p v H' ρ' s R1 hv
  · rw [if_neg o] at p
    exact p v H' ρ' s R1 hv
end
end Dv
end

section
set_option Elab.async false
set_option autoImplicit false
set_option linter.all false
set_option maxRecDepth 100000
set_option maxHeartbeats 4000000
/-! DvQ: every def keeps what the evaluator promises. -/
namespace Dv
open PySem L2
/-- a def's text -/
def DefF (K : PySem.W.Frag) (G : Gl) (B : Tb) (a : Addr) (d : Def) (fd : FuncData) (ps : List Str) : Prop := ∃ name qual params body scope N, FunD K name qual params body scope [] [] a fd ∧ FnScope N ps scope ∧ ps.length = d.np ∧ N.length = d.ns ∧
  (∀ (s : Shared) (us : List Value), us.length = ps.length → BindsTo s fd ⟨us, []⟩ (ps.zip us)) ∧ (ms G N scope d.body B).b body = true
theorem binds_of {K : PySem.W.Frag} {fd : FuncData} {ps : List Str} (h : ∀ (s : Shared) (us : List Value), us.length = ps.length → BindsTo s fd ⟨us, []⟩ (ps.zip us)) : Binds K fd ps [] := fun s us _ hl => by
  rw [List.append_nil] at hl ⊢
  exact h s us hl
/-- what is known of the module -/
structure Wd (P₀ : Program) (w : World) (K : PySem.W.Frag) (mg : Str → Option Value) (G : Gl) (P : Nat → Option Def) (B : Tb) (CA FA : Nat → Addr) : Prop where
  cm : B.cm = true
  bln : ∀ b, mg (biN b) = none
  tyn : ∀ t, mg (tyS t) = none
  rgn : mg "range" = none
  isn : mg "isinstance" = none
  con : ∀ k d, G.con k = some d → ∃ v u, mg (B.gn k) = some u ∧ RelV v u ∧ ∀ H ρ, RV K H ρ d v
  fns : ∀ f, B.isf f = true → mg (B.fn f) = some (.ref (FA f)) ∧ ∃ d, P f = some d
  mth : ∀ c m g, G.mid c m = some g → Cls K (CA c) ∧ Meth K (CA c) (G.mn m) (FA g) ∧ ∃ d, P g = some d
  mak : ∀ c g, G.ini c = some g → mg (B.cn c) = some (.ref (CA c)) ∧ Mk K (CA c) (FA g) ∧ ∃ d, P g = some d
  fld : ∀ c f, G.fok c f = true → Cls K (CA c) ∧ NoAttr K (CA c) f
  xcl : ∀ c, G.isc c = true → mg (B.cn c) = some (.ref (CA c)) ∧ ExcC K (CA c)
  xsb : ∀ k c, G.isc k = true → G.isc c = true → PySem.W.kitOne K (.ref (CA k)) (.ref (CA c)) = some (G.sub k c) ∧ PySem.W.exmOne K (.ref (CA k)) (.ref (CA c)) = some (G.sub k c)
  xfl : ∀ k f, G.xok k f = true → XfC K (CA k) ∧ PySem.W.findIn K (.ref (CA k)) f = some none
  xrw : ∀ c, G.xraw c = true → mg (B.cn c) = some (.ref (CA c)) ∧ PySem.W.keepIn K (.ref (CA c)) = true ∧ (PySem.W.subIn K (.ref (CA c)) (.type "BaseException") = some true ∧ PySem.W.typeIn K (.ref (CA c)) = some (.type "type")) ∧
    ∃ T newId initId bmB, ExcBaseFacts T newId initId bmB ∧ PySem.W.excIn K (CA c) bmB newId = true
  xmk : ∀ c fs, G.exi c = some fs → ∀ X : Cx, X.prog = P₀ → X.w = w → X.K = K → X.mg = mg → Room 2 X.A → XMk X (CA c) (B.cn c) fs
  defs : ∀ f d, P f = some d → ∃ fd ps, DefF K G B (FA f) d fd ps
def Ca.all (CA : Nat → Addr) : Ca := ⟨CA, fun _ _ => True, fun _ _ _ => trivial⟩
theorem RE.start {K : PySem.W.Frag} {H : Hp} {ρ : List Addr} {ds : List D} {vs : List V} {N : List Str} {n : Nat} (r : RVs K H ρ ds vs) (hn : N.length = n) : RE K H ρ (ds.map some ++ List.replicate (n - ds.length) none) (L2.start N vs) := by
  have l := RVs.length r
  refine ⟨by unfold L2.start; simp [l, hn], fun i d h => ?_⟩
  by_cases hi : i < ds.length
  · rw [List.getElem?_append_left (by simpa using hi), List.getElem?_map] at h
    cases q : ds[i]? with
    | none => rw [q] at h; cases h
    | some d' =>
      rw [q] at h
      cases h
      obtain ⟨v, e, rv⟩ := RVs.get r q
      refine ⟨v, ?_, rv⟩
      unfold L2.start
      rw [List.getElem?_append_left (by simpa [l] using hi), List.getElem?_map, e]
      rfl
  · rw [List.getElem?_append_right (by simpa using hi), List.getElem?_replicate] at h
    split at h <;> cases h
section
variable {P₀ : Program} {w : World} {K : PySem.W.Frag} {mg : Str → Option Value} {G : Gl} {P : Nat → Option Def} {B : Tb} {CA FA : Nat → Addr}
theorem callN_len {n f : Nat} {d : Def} {ds : List D} {M : Store} {H : Hp} {ρ : List Addr} {Q : VK} {E : XK} (e : P f = some d) (p : PostC CA K H ρ (callN G P (n + 1) f ds M) Q E) : ds.length = d.np ∧
    PostC CA K H ρ (match exS G (callN G P n) d.body none (ds.map some ++ List.replicate (d.ns - ds.length) none) M with
        | .nx _ M1 => fin M .non M1
        | .rt v M1 => fin M v M1
        | .exc c fs _ M1 => if oldOk M M1 = true ∧ (fs.all fun kv => kv.2.und 0) = true then .exc c fs (M1.take M.length) else .bad
        | .bad => .bad) Q E := by
  unfold callN at p
  rw [e] at p
  simp only at p
  by_cases h : ds.length = d.np
  · rw [if_pos h] at p
    exact ⟨h, p⟩
  · rw [if_neg h] at p
    exact p.elim
theorem def_ok (D : Wd P₀ w K mg G P B CA FA) (base : Heap) : ∀ (n f : Nat) (d : Def) (fd : FuncData) (ps : List Str), P f = some d → DefF K G B (FA f) d fd ps → FnOk P₀ w K mg base (L2.CX P₀ w) (2 * n + 1) (FA f) fd ps (spC CA K (callN G P n) f)
  | 0, f, d, fd, ps, e, df => by
    refine ⟨fun vs H Q E h => ?_, fun A outer s H args us vs Q E hr e0 hb r h => ?_⟩
    · obtain ⟨ds, M, ρ, _, _, p⟩ := h
      exact p.elim
    · obtain ⟨ds, M, ρ, _, _, p⟩ := h
      exact p.elim
  | n + 1, f, d, fd, ps, e, df => by
    obtain ⟨name, qual, params, body, scope, N, F, S, h1, h2, hb, hm⟩ := df
    refine F.ok (k := 2 * n + 2) S (fun vs H Q E h => ?_) fun cdv A outer s H vs Q E hr h => ?_
    · obtain ⟨ds, M, ρ, _, r, p⟩ := h
      rw [RVs.length r, (callN_len e p).1, h1]
    · obtain ⟨ds, M, ρ, R, r, p⟩ := h
      obtain ⟨hl, p⟩ := callN_len e p
      refine ⟨_, pss_tm _ body, ?_⟩
      have fni : ∀ g d', P g = some d' → FnI CA (cxOf (L2.CX P₀ w) P₀ w K mg base N qual scope (FA f) cdv A outer s H E) (callN G P n) g (FA g) := fun g d' e' => by
        obtain ⟨fd', ps', df'⟩ := D.defs g d' e'
        have F' := def_ok D base n g d' fd' ps' e' df'
        obtain ⟨_, _, _, _, _, _, _, _, _, _, b', _⟩ := df'
        exact ⟨fd', ps', 2 * n + 1, F', hr, binds_of b'⟩
      have sc : Sc G (callN G P n) none B (Ca.all CA) (cxOf (L2.CX P₀ w) P₀ w K mg base N qual scope (FA f) cdv A outer s H E) (fun cls dd _ H' => E cls dd H') := {
        cc := {
          nd := S.nd
          tk := takes_of rfl rfl rfl rfl
          un := by have := hr.un; show (A.deeper _).units + 200 < cLine; omega
          calm := fun _ => rfl
          kind := S.kind
          bln := D.bln
          tyn := D.tyn
          rgn := D.rgn
          isn := D.isn
          con := D.con
          fns := fun _ g hg => by
            obtain ⟨a1, d', a2⟩ := D.fns g hg
            obtain ⟨fd', ps', df'⟩ := D.defs g d' a2
            obtain ⟨_, _, _, _, _, _, F', _⟩ := df'
            exact ⟨FA g, a1, F'.kp, fni g d' a2⟩
          mth := fun _ c m g hg => by
            obtain ⟨a1, a2, d', a3⟩ := D.mth c m g hg
            exact ⟨FA g, a1, a2, fni g d' a3⟩
          mak := fun _ c g hg => by
            obtain ⟨a1, a2, d', a3⟩ := D.mak c g hg
            exact ⟨FA g, a1, a2, fni g d' a3⟩
          fld := D.fld
          sgc := fun _ _ _ => trivial
          cuc := fun _ => rfl
          xcl := D.xcl
          xsb := D.xsb
          xfl := D.xfl
          xc := fun k fs e => by cases e }
        own := fun _ => passes_of rfl
        fnc := fun _ _ => rfl
        stk := rfl
        frm := rfl
        xrw := fun c hc => by
          obtain ⟨a1, a2, a3, a4⟩ := D.xrw c hc
          exact ⟨a1, a2, raises_own a3.1 a3.2, a4⟩
        xmk := fun _ c fs hc => D.xmk c fs hc _ rfl rfl rfl rfl (hr.mono (by omega)) }
      refine (stm_ok d.body (Ca.all CA) _ _ B none sc).b body hm _ H ρ (ds.map some ++ List.replicate (d.ns - ds.length) none) M _ ⟨R, RE.start r h2, trivial⟩ ?_
      revert p
      cases exS G (callN G P n) d.body none (ds.map some ++ List.replicate (d.ns - ds.length) none) M with
      | nx e1 M1 => exact fun p σ' H' ρ' s1 r1 => fin_ok R s1 r1.st of_non p
      | rt v M1 => exact fun p v H' ρ' s1 R1 rv => fin_ok R s1 R1 rv p
      | exc c fs e1 M1 =>
        intro p dd σ' H' ρ' s1 r1 xr
        have p : PostC CA K H ρ (if oldOk M M1 = true ∧ (fs.all fun kv => kv.2.und 0) = true then .exc c fs (M1.take M.length) else .bad) Q E := p
        by_cases hc : oldOk M M1 = true ∧ (fs.all fun kv => kv.2.und 0) = true
        · rw [if_pos hc] at p
          obtain ⟨_, s2, R2⟩ := St8.cut R s1 r1.st hc.1
          exact p dd H' ρ s2 R2 xr
        · rw [if_neg hc] at p
          exact p.elim
      | bad => exact fun p => p
/-- the law's def, from the outside: no exception leaves it -/
def CXn : CXT := fun _ _ _ _ _ _ => False
theorem def_out (D : Wd P₀ w K mg G P B CA FA) (base : Heap) {n f : Nat} {d : Def} {fd : FuncData} {ps : List Str} (e : P f = some d) (df : DefF K G B (FA f) d fd ps) :
    FnOk P₀ w K mg base CXn (2 * n + 1) (FA f) fd ps (fun vs H Q _ => spC CA K (callN G P n) f vs H Q fun _ _ _ => False) := by
  have F := def_ok D base n f d fd ps e df
  refine ⟨fun vs H Q E h => F.len vs H Q _ h, fun A outer s H args us vs Q E hr e0 hb r h => ?_⟩
  refine codeAny_mono (F.run A outer s H args us vs Q _ hr e0 hb r h) fun r s' hq => ?_
  cases r with
  | error er =>
    obtain ⟨_, _, _, _, _, _, _, _, _, _, _, _, z⟩ := hq
    exact z.elim
  | ok fl => cases fl <;> exact hq
theorem script_ok {n f : Nat} {ns : List Int} {M : Store} (h : callN G P n f [.rol ns] [] = .ok (.bl true) M) {H : Hp} {a : Addr} (hO : Only H) (hS : SqL K H a (ns.map V.int)) : spC CA K (callN G P n) f [.ref a] H (fun v _ => v = .bl true) fun _ _ _ => False := by
  refine ⟨[.rol ns], [], [], ⟨rfl, List.nodup_nil, fun n o e => by simp at e⟩, RVs.cons ?_ RVs.nil, ?_⟩
  · simp only [RV]
    refine ⟨a, rfl, ?_⟩
    rcases hS with (hS | hS) | hS
    · rcases hO a with z | ⟨o, xs, z⟩
      · rw [hS] at z; cases z
      · rw [hS] at z; cases z
    · exact .inl hS
    · exact .inr hS
  · rw [h]
    exact fun v H' ρ' _ _ r => rv_bl r
end
end Dv
end

section
set_option Elab.async false
set_option autoImplicit false
set_option linter.all false
set_option maxRecDepth 100000
set_option maxHeartbeats 4000000
/-! DvX: exceptions of a class whose own __init__ keeps what it is given, over ValueError or Exception. -/
namespace Dv
open PySem L2 PySem.Spec PyProof.Rows PySem.W
section
open Builtin Builtin.ObjectAttr
variable {prog : Program} {w : World} {A : Around} {E : Value → Shared → Prop} {R : Result → Shared → Prop} {hp : Heap} {g : Array GenState} {d : Drawn} {t : Nat} {os : OsState}
/-- self.name = v, where there is no dict yet -/
theorem osaN {K : W.Frag} {name : Str} {tk : Tok} {v : Value} {x C : Addr} {fv : Array Value} {cd : ClassData} {bmB : List Value} (hpass : ∀ self, refuseLoop self "__setattr__" bmB = pure ()) (hobj : bmB.contains (.type "object") = true)
    (X : K.In hp) (hx : hp.get? x = some { cls := .ref C, data := .fields fv }) (hcd : W.clsIn K C = some cd) (hm : excTail bmB cd.mro = true) (hh : cd.hasDict = true) (ha : W.findIn K (.ref C) name = some none)
    (hq : ∀ h' tk' dx, (∀ b o, b ≠ x → hp.get? b = some o → h'.get? b = some o) → hp.objs.size ≤ dx → dx ≠ x → h'.get? x = some { cls := .ref C, dict := some dx, data := .fields fv } →
      h'.Ns1 dx (fun y => if y = name then some v else none) → R (.ok (.ret .none)) ⟨h', g, d, tk', os⟩) :
    codeAny (model prog w) A (.call (.builtin "object.__setattr__") ⟨[.ref x, .str name tk, v], []⟩) R ⟨hp, g, d, t, os⟩ := by
  have I : W.InstAt hp x { cls := .ref C, data := .fields fv } C none := ⟨hx, rfl, rfl, trivial⟩
  have SF := F.store_object
  have hob : cd.mro.contains (.type "object") = true := (excTail_contains "object" _ hm).trans hobj
  have ne : cd.mro.isEmpty = false := by
    cases q : cd.mro with
    | nil => rw [q] at hob; cases hob
    | cons _ _ => rfl
  have hxs : x ≠ hp.objs.size := Nat.ne_of_lt (Heap.lt_size hx)
  have sub : W.Looks (model prog w) hp (isInstance (.ref x) (.type "object")) true := I.type.andThen (W.looks_mroIn X (by unfold W.mroIn; rw [hcd, Option.bind_some, if_neg (by rw [ne]; decide), hob]))
  refine codeAny_call_builtin SF.slot.plain SF.entry (@W.check_slot (model prog w) _ _ ⟨hp, g, d, t, os⟩ "object.__setattr__" "object" "__setattr__" (.ref x) [.str name tk, v] [] _ SF.kind SF.split sub (SF.args (.ref x) (.str name tk) v) ?_)
  have hmr : W.Looks (model prog w) hp (mroOf (.ref C)) cd.mro := (W.looks_clsIn X hcd).andThen .now
  have L3 : W.Looks (model prog w) hp (storeTaker? none) none := .now
  have hcls : W.Looks (model prog w) hp (classData C) cd := W.looks_clsIn X hcd
  rw [W.osa_eq, refuse_eq]
  refine wpAny_bind (wpAny_bind (I.type.at (wpAny_bind (hmr.at ?_))))
  rw [excTail_pass _ (hpass _) _ hm]
  refine wpAny_pure (wpAny_bind (I.type.at (wpAny_bind ((W.looks_findIn X ha).at (wpAny_bind (L3.at ?_))))))
  show wpAny _ _ (storeInOwnDict (.ref x) (.ref C) (.str name tk) name v false) _ _ _
  obtain ⟨nm, bs, mro, ns, qn, hd, sn, sb, ab, col, del⟩ := cd
  dsimp only at hh
  subst hh
  unfold storeInOwnDict ownDictForStores
  repeat (first | with_reducible refine PySem.HandSPX.store_in_new ?_ ?_ | with_reducible refine wpAny_loadPart_at hx ?_ | with_reducible refine hcls.at ?_ | wp_step)
  · exact ⟨_, #[], _, (Heap.get?_update_ne _ _ _ _ hxs.symm).trans (Heap.get?_push_at rfl rfl), rfl, fun e he => absurd he (by simp), fun _ => rfl⟩
  · intro h' tk' hn' hs
    have hx₁ : (hp.push { cls := .type "dict", data := .dict #[] }).get? x = some { cls := .ref C, data := .fields fv } := Heap.get?_push_of_some _ hx
    refine hq h' tk' hp.objs.size (fun b o hb ho => ?_) (Nat.le_refl _) hxs.symm ?_ hn'
    · exact (hs.2 b (Nat.ne_of_lt (Heap.lt_size ho))).trans ((Heap.get?_update_ne _ _ _ _ hb).trans (Heap.get?_push_of_some _ ho))
    · exact (hs.2 x hxs).trans (Heap.get?_update_self _ hx₁ rfl)
/-- self.name = v, a further one -/
theorem osaO {K : W.Frag} {name : Str} {tk : Tok} {v : Value} {x C dx : Addr} {fv : Array Value} {cd : ClassData} {m0 : Str → Option Value} {nl : List Str} {bmB : List Value} (hpass : ∀ self, refuseLoop self "__setattr__" bmB = pure ()) (hobj : bmB.contains (.type "object") = true)
    (X : K.In hp) (hx : hp.get? x = some { cls := .ref C, dict := some dx, data := .fields fv }) (hns : hp.Ns1 dx m0) (hw : Within m0 nl) (hz : nl.length ≤ 1000) (hcd : W.clsIn K C = some cd) (hm : excTail bmB cd.mro = true) (hh : cd.hasDict = true)
    (ha : W.findIn K (.ref C) name = some none)
    (hq : ∀ h' tk', (∀ b o, b ≠ dx → hp.get? b = some o → h'.get? b = some o) → h'.Ns1 dx (fun y => if y = name then some v else m0 y) → R (.ok (.ret .none)) ⟨h', g, d, tk', os⟩) :
    codeAny (model prog w) A (.call (.builtin "object.__setattr__") ⟨[.ref x, .str name tk, v], []⟩) R ⟨hp, g, d, t, os⟩ := by
  obtain ⟨oD, esD, epD, hoD, hdD, _⟩ := hns.count hw
  have I : W.InstAt hp x { cls := .ref C, dict := some dx, data := .fields fv } C (some oD) := ⟨hx, rfl, rfl, hoD⟩
  have SF := F.store_object
  have hob : cd.mro.contains (.type "object") = true := (excTail_contains "object" _ hm).trans hobj
  have ne : cd.mro.isEmpty = false := by
    cases q : cd.mro with
    | nil => rw [q] at hob; cases hob
    | cons _ _ => rfl
  have sub : W.Looks (model prog w) hp (isInstance (.ref x) (.type "object")) true := I.type.andThen (W.looks_mroIn X (by unfold W.mroIn; rw [hcd, Option.bind_some, if_neg (by rw [ne]; decide), hob]))
  refine codeAny_call_builtin SF.slot.plain SF.entry (@W.check_slot (model prog w) _ _ ⟨hp, g, d, t, os⟩ "object.__setattr__" "object" "__setattr__" (.ref x) [.str name tk, v] [] _ SF.kind SF.split sub (SF.args (.ref x) (.str name tk) v) ?_)
  have hmr : W.Looks (model prog w) hp (mroOf (.ref C)) cd.mro := (W.looks_clsIn X hcd).andThen .now
  have L3 : W.Looks (model prog w) hp (storeTaker? none) none := .now
  have hcls : W.Looks (model prog w) hp (classData C) cd := W.looks_clsIn X hcd
  rw [W.osa_eq, refuse_eq]
  refine wpAny_bind (wpAny_bind (I.type.at (wpAny_bind (hmr.at ?_))))
  rw [excTail_pass _ (hpass _) _ hm]
  refine wpAny_pure (wpAny_bind (I.type.at (wpAny_bind ((W.looks_findIn X ha).at (wpAny_bind (L3.at ?_))))))
  show wpAny _ _ (storeInOwnDict (.ref x) (.ref C) (.str name tk) name v false) _ _ _
  obtain ⟨nm, bs, mro, ns, qn, hd, sn, sb, ab, col, del⟩ := cd
  dsimp only at hh
  subst hh
  unfold storeInOwnDict ownDictForStores
  repeat (first | with_reducible refine PySem.OEX.store_in_old hns hw hz ?_ | with_reducible refine wpAny_loadPart_at hx ?_ | with_reducible refine hcls.at ?_ | wp_step)
  intro h' tk' hn' hs
  exact hq h' tk' (fun b o hb ho => (hs.2 b hb).trans ho) hn'
end
/-! ### such a class -/
structure OexT (K : PySem.W.Frag) (C : Addr) (B newId initId : String) (bmB : List Value) : Prop where
  F : ExcBaseFacts B newId initId bmB
  pass : ∀ self, refuseLoop self "__setattr__" bmB = pure ()
  hob : bmB.contains (.type "object") = true
  cls : ∃ nm q N bs bm sn sub ab col dd k0 k1 k2 k3 k5, K.lookup C = some (excClassObj nm q C N bs bm true sn sub ab col dd k0 k1 k2 k3 k5 newId) ∧ excTail bmB bm = true
  sa : PySem.W.findIn K (.ref C) "__setattr__" = some (some (.builtin "object.__setattr__"))
  exC : PySem.W.subIn K (.ref C) (.type "BaseException") = some true
  tyC : PySem.W.typeIn K (.ref C) = some (.type "type")
  kC : PySem.W.keepIn K (.ref C) = true
section
variable {X : Cx} {pins : List (Addr × Obj)} {σ : L2.St} {H : Hp} {s : Shared} {a C dx : Addr} {f : Str} {y : V} {u : Value} {fs : List (Str × V)} {Q : Unit → Shared → Prop} {E : Value → Shared → Prop} {A : Around} {B newId initId : String} {bmB : List Value}
theorem ostN (T : OexT X.K C B newId initId bmB) (I : Inv X pins σ H s) (e : H a = some (exo a C none)) (hno : PySem.W.findIn X.K (.ref C) f = some none) (ry : RelV y u)
    (h : ∀ dx s', H dx = none → dx ≠ a → Inv X pins σ (upd (upd H dx (exd dx [(f, y)])) a (exo a C (some dx))) s' → Q () s') : wpAny (model X.prog X.w) A (setAttr (.ref a) f u) Q E s := by
  obtain ⟨nm, q, N, bs, bm, sn, sub, ab, col, dd, k0, k1, k2, k3, k5, hC, hbm⟩ := T.cls
  have hcl : PySem.W.clsIn X.K C = some { name := nm, bases := bs, mro := .ref C :: bm, ns := N, qualname := q, hasDict := true, slotNames := sn, subclasses := sub, abstract := ab, collection := col, hasDel := false } := by unfold PySem.W.clsIn; rw [hC] <;> rfl
  obtain ⟨t1, ho⟩ := exo_at I.hok e
  obtain ⟨hp, g, d, t, os⟩ := s
  refine PySem.W.set_plain I.kIn (ox := { cls := .ref C, dict := none, data := .fields #[.ref t1, .none, .none, .none, .bool false, .none] }) (od := none) ⟨ho, rfl, rfl, trivial⟩ T.sa ?_
  refine osaN T.pass T.hob I.kIn ho hcl (show excTail bmB (.ref C :: bm) = true from hbm) rfl hno (fun h' tk' dx k dn dne hx hn => ?_)
  have hnd : H dx = none := I.hok.fresh dn
  have nd : ∀ {b : Addr} {o : Obj}, hp.get? b = some o → b ≠ dx := fun {b o} q => Nat.ne_of_lt (Nat.lt_of_lt_of_le (Heap.lt_size q) dn)
  have na : ∀ {b : Addr}, H b = none → b ≠ a := fun {b} n z => by
    rw [z, e] at n
    cases n
  have Un1 : Un X.fs [] H (upd (upd H dx (exd dx [(f, y)])) a (exo a C (some dx))) hp h' := {
    keep := fun b o q n _ _ => k b o (na n) q
    slot := fun b o q n _ _ => ⟨o.slots, k b o (na n) q⟩
    free := fun b o q n _ => by rw [upd_ne (na n), upd_ne (nd q)]; exact n
    there := fun b o q _ => by
      by_cases hb : b = a
      · exact ⟨_, by rw [hb]; exact hx⟩
      · exact ⟨o, k b o hb q⟩
    tups := fun b xs q => by rw [upd_ne (at_ne e q exo_tup), upd_ne (ne_of_none q hnd)]; exact q
    frzs := fun b o v q => by rw [upd_ne (at_ne e q exo_frz), upd_ne (ne_of_none q hnd)]; exact q
    tbls := fun b ps q => ⟨#[], by rw [upd_ne (at_ne e q exo_tbl), upd_ne (ne_of_none q hnd), q]; simp⟩ }
  refine h dx _ hnd dne (I.un (t' := tk') Un1 fun b o q => ?_)
  by_cases hb : b = a
  · subst hb
    rw [upd_same] at q
    cases q
    exact exo_ok hx
  · rw [upd_ne hb] at q
    by_cases hd : b = dx
    · subst hd
      rw [upd_same] at q
      cases q
      exact exd_ok hn (relO_put (fs := []) ry fun g => True.intro)
    · rw [upd_ne hd] at q
      exact (I.hok b o q).stay (fun c v hc z => k c v (by
          rcases hc with hc | hc
          · rw [hc]
            exact hb
          · exact at_ne e hc exo_own) z)
        (fun c hc => by rw [upd_ne (at_ne e hc exo_own), upd_ne (ne_of_none hc hnd)]; exact hc) (fun c xs hc => by rw [upd_ne (at_ne e hc exo_tup), upd_ne (ne_of_none hc hnd)]; exact hc)
theorem ostO (T : OexT X.K C B newId initId bmB) (I : Inv X pins σ H s) (e : H a = some (exo a C (some dx))) (ed : H dx = some (exd dx fs)) (hl : fs.length ≤ 900) (hno : PySem.W.findIn X.K (.ref C) f = some none) (ry : RelV y u)
    (h : ∀ s', Inv X pins σ (upd H dx (exd dx ((f, y) :: fs))) s' → Q () s') : wpAny (model X.prog X.w) A (setAttr (.ref a) f u) Q E s := by
  obtain ⟨nm, q, N, bs, bm, sn, sub, ab, col, dd, k0, k1, k2, k3, k5, hC, hbm⟩ := T.cls
  have hcl : PySem.W.clsIn X.K C = some { name := nm, bases := bs, mro := .ref C :: bm, ns := N, qualname := q, hasDict := true, slotNames := sn, subclasses := sub, abstract := ab, collection := col, hasDel := false } := by unfold PySem.W.clsIn; rw [hC] <;> rfl
  obtain ⟨t1, ho⟩ := exo_at I.hok e
  obtain ⟨mA, hns, rel⟩ := exd_at I.hok ed
  have hw := within_of rel
  obtain ⟨hp, g, d, t, os⟩ := s
  obtain ⟨oD, _, _, hoD, _, _⟩ := hns.count hw
  refine PySem.W.set_plain I.kIn (ox := { cls := .ref C, dict := some dx, data := .fields #[.ref t1, .none, .none, .none, .bool false, .none] }) (od := some oD) ⟨ho, rfl, rfl, hoD⟩ T.sa ?_
  refine osaO T.pass T.hob I.kIn ho hns hw (by rw [List.length_map]; omega) hcl (show excTail bmB (.ref C :: bm) = true from hbm) rfl hno (fun h' tk' k hn => ?_)
  have hd : ∃ o, h'.get? dx = some o := by
    obtain ⟨o, _, _, e', _⟩ := hn
    exact ⟨o, e'⟩
  exact h _ (I.write (t' := tk') (x := dx) (e := dx) (o := exd dx ((f, y) :: fs)) (by rw [ed]; exact True.intro) (.inl rfl) k hd (exd_ok hn (relO_put ry rel)))
end
/-- self.f = e -/
def tOstT (K : PySem.W.Frag) (B newId initId : String) (bmB : List Value) (f : Str) (to te : TE) : TS := fun D σ H => te σ H fun y H1 => to σ H1 fun x H2 => ∃ a C : Addr, x = .ref a ∧ OexT K C B newId initId bmB ∧ PySem.W.findIn K (.ref C) f = some none ∧
  ((H2 a = some (exo a C none) ∧ ∀ dx, H2 dx = none → dx ≠ a → D.nx σ (upd (upd H2 dx (exd dx [(f, y)])) a (exo a C (some dx)))) ∨
    ∃ (dx : Addr) (fs : List (Str × V)), H2 a = some (exo a C (some dx)) ∧ H2 dx = some (exd dx fs) ∧ fs.length ≤ 900 ∧ D.nx σ (upd H2 dx (exd dx ((f, y) :: fs))))
section
variable {X : Cx} {o e : Expr} {es : List Expr} {to te : TE} {ta : TA} {f : Str} {p p' p1 p2 pos : Pos} {B newId initId : String} {bmB : List Value}
theorem ps_ostT (ho : PE X o to) (he : PE X e te) (hs : swapsWith e (some (.Attribute o f p')) pos.line X.env = pure false := by rfl) : PS X (.Assign [.Attribute o f p'] e pos) (tOstT X.K B newId initId bmB f to te) := by
  refine ⟨fun pins s σ H D I h => ?_⟩
  refine plainObj_wpAny_Assign_Attribute (thn (he.run pins s σ H _ I h) fun v s1 ⟨y, H1, I1, r1, q1⟩ => thn (ho.run pins s1 σ H1 _ I1 q1) fun u s2 ⟨x, H2, I2, r2, a, C, ex, T, hno, q⟩ => ?_) hs
  subst ex
  obtain rfl : u = Value.ref a := r2
  rcases q with ⟨ea, q⟩ | ⟨dx, fs, ea, ed, hl, q⟩
  · exact ostN T I2 ea hno r1 fun dx s' n ne J => ⟨σ, _, J, q dx n ne⟩
  · exact ostO T I2 ea ed hl hno r1 fun s' J => ⟨σ, _, J, q⟩
theorem pmk_oexT {CX : CXT} {x : Str} {C fI : Addr} {k : Nat} {fd : FuncData} {ps : List Str} {sp : Sp} {ds : List Value} {dvs : List V} (T : OexT X.K C B newId initId bmB) (iC : PySem.W.findIn X.K (.ref C) "__init__" = some (some (.ref fI))) (tI : PySem.W.typeIn X.K (.ref fI) = some (.type "function"))
    (F1 : FnOk X.prog X.w X.K X.mg X.base CX k fI fd ps sp) (hr : Room (k + 1) X.A) (hb : Binds X.K fd ps ds) (hd : Vals dvs ds) (hx : Passes CX X (fun _ _ _ => False)) (hg : L2.Gl X x) (hm : X.mg x = some (.ref C)) (ha : PA X (e :: es) ta)
    (hdb : (x == ("__debug__" : Str)) = false := by decide) (he : starEach (e :: es) X.env = (false, eval e X.env) :: starEach es X.env := by rfl) (hpl : (backTo pos (starEach es X.env)).any (·.1) = false := by rfl) :
    PMk X (.Call (.Name x p) (e :: es) [] pos) (tMkO C sp dvs ta) := by
  intro pins s σ H Q I h
  obtain ⟨nm, q, N, bs, bm, sn, sub, ab, col, dd, k0, k1, k2, k3, k5, hC, hbm⟩ := T.cls
  refine wpAny_Call_Name_kw (ld_glob I hg hm ?_ hdb)
  refine PySem.W.callWith_K (h₀ := X.base) I.ok.mod.kin T.kC (thn (ha.run pos pins s σ H _ I h) fun us s1 ⟨vs, H1, I1, r1, hz, q1⟩ => ⟨I1.kIn, ?_⟩) he hpl
  show wpAny _ _ (call (.ref C) us) _ _ _
  obtain ⟨hp, g, dr, tk, os⟩ := s1
  have hsz : hp.objs.size ≤ hp.objs.size + 1 := Nat.le_succ _
  have hn : H1 (hp.objs.size + 1) = none := I1.hok.fresh hsz
  have hq := q1 (hp.objs.size + 1) hn
  have kk : ∀ b o, hp.get? b = some o → ((hp.push (PySem.W.kdv_tup us)).push (PySem.HandSPX.excO C hp.objs.size)).get? b = some o := fun b o e => Heap.get?_push_of_some _ (Heap.get?_push_of_some _ e)
  have hget : ((hp.push (PySem.W.kdv_tup us)).push (PySem.HandSPX.excO C hp.objs.size)).get? (hp.objs.size + 1) = some (PySem.HandSPX.excO C hp.objs.size) := by heap_get
  have I2 : Inv X pins σ (upd H1 (hp.objs.size + 1) (exo (hp.objs.size + 1) C none)) ⟨(hp.push (PySem.W.kdv_tup us)).push (PySem.HandSPX.excO C hp.objs.size), g, dr, tk, os⟩ :=
    I1.laid (t' := tk) (a := hp.objs.size + 1) (o := exo (hp.objs.size + 1) C none) (h' := (hp.push (PySem.W.kdv_tup us)).push (PySem.HandSPX.excO C hp.objs.size)) kk hsz (exo_ok hget)
  have r2 : Vals (V.ref (hp.objs.size + 1) :: (vs ++ dvs)) (Value.ref (hp.objs.size + 1) :: (us ++ ds)) := .cons rfl (r1.append hd)
  have hl : (Value.ref (hp.objs.size + 1) :: us ++ ds).length = ps.length := by
    have e := r2.length
    rw [F1.len _ _ _ _ hq] at e
    exact e.symm
  have hus : us.length ≤ sizeLine := by
    rw [← Paired.length r1, sizeLine_eq]
    omega
  refine wpAny_call (PySem.HandSPX.call_own T.F (fun Y => excTail_contains Y bm hbm) (I1.kIn _ _ hC) (PySem.W.looks_findIn I1.kIn iC) (fun self => PySem.W.bind_fn I1.kIn self tI) hus
    (codeAny_mono (F1.run _ X.stack _ _ ⟨Value.ref (hp.objs.size + 1) :: us, []⟩ (Value.ref (hp.objs.size + 1) :: (us ++ ds)) _ _ (fun _ _ _ => False) (hr.make C us []) (I2.env0.make C us []) (hb _ (Value.ref (hp.objs.size + 1) :: us) I2.kIn hl) r2 hq) fun r s' hq' => ?_))
  cases r with
  | error er => exact hx pins σ _ _ er s' I2 hq'
  | ok fl =>
    cases fl with
    | ret u =>
      obtain ⟨v, H2, os2, bare2, un2, hok2, rv, ev, d, fs, ea, ed, hd1, q2⟩ := hq'
      subst ev
      obtain ⟨h2, g2, d2, t2, os'⟩ := s'
      exact ⟨rv, mk_end (raises_own T.exC T.tyC) I1 hsz kk un2 hok2 os2 bare2 ea ed hd1 q2⟩
    | next => exact False.elim hq'
    | brk => exact False.elim hq'
    | cont => exact False.elim hq'
end
/-! ### its __init__: self.f = f, .. -/
def iniB (N : List Str) (sc : Scope) (y : Str) : Nat → List Str → List Stmt → Bool
  | _, [], [] => true
  | i, f :: fs, .Assign [.Attribute (.Name y' _) g _] (.Name x _) _ :: r => decide (y' = y) && (decide (N[i]? = some x) && (visB sc x && (dbgB x && (decide (g = f) && iniB N sc y (i + 1) fs r))))
  | _, _, _ => false
def iniAll (N ps : List Str) (sc : Scope) (fs : List Str) (body : List Stmt) : Bool := match N, fs with
  | y :: _, _ :: _ => decide (ps.length = fs.length + 1) && (decide (fs.length ≤ 900) && (visB sc y && (dbgB y && iniB N sc y 1 fs body)))
  | _, _ => false
theorem upd_upd {H : Hp} {a : Addr} {x y : HO} : upd (upd H a x) a y = upd H a y := by
  funext b
  by_cases h : b = a
  · rw [h, upd_same, upd_same]
  · rw [upd_ne h, upd_ne h, upd_ne h]
theorem upd_self {H : Hp} {a : Addr} {x : HO} (h : H a = some x) : upd H a x = H := by
  funext b
  by_cases e : b = a
  · rw [e, upd_same, h]
  · rw [upd_ne e]
section
variable {X : Cx} {B newId initId : String} {bmB : List Value} {C a : Addr} {y : Str}
theorem ini_old (T : OexT X.K C B newId initId bmB) (h0 : X.N[0]? = some y) (hv : visB X.env.scope y = true) (hd : dbgB y = true) {d : Addr} : ∀ (fs : List Str) (r : List Stmt) (i : Nat) (ws : List V) (done : List (Str × V)) (σ : L2.St) (H : Hp) (D : Ends),
    iniB X.N X.env.scope y i fs r = true → ws.length = fs.length → done.length + fs.length ≤ 900 → (∀ f ∈ fs, PySem.W.findIn X.K (.ref C) f = some none) → σ[0]? = some (some (.ref a)) → (∀ j v, ws[j]? = some v → σ[i + j]? = some (some v)) →
    H a = some (exo a C (some d)) → H d = some (exd d done) → d ≠ a → D.nx σ (upd H d (exd d ((fs.zip ws).reverse ++ done))) → TMB X r D σ H := by
  intro fs
  induction fs with
  | nil =>
    intro r i ws done σ H D hb hl _ _ _ _ ha hd' _ q
    cases r with
    | cons st r => cases hb
    | nil =>
      refine tm_pss pss_nil ?_
      have e : upd H d (exd d done) = H := upd_self hd'
      have q : D.nx σ (upd H d (exd d done)) := q
      rw [e] at q
      exact q
  | cons f fs ih =>
    intro r i ws done σ H D hb hl hn hf hs hw ha hd' ne q
    cases r with
    | nil => cases hb
    | cons st r =>
      unfold iniB at hb
      split at hb
      · rename_i e1 e2; cases e2
      · rename_i i _ _ _ f0 fs0 y' yp g gp x xp ap r0 e1 e2
        obtain ⟨rfl, rfl⟩ := List.cons.inj e1
        obtain ⟨rfl, rfl⟩ := List.cons.inj e2
        simp only [Bool.and_eq_true, decide_eq_true_eq] at hb
        obtain ⟨rfl, b2, b3, b4, rfl, b6⟩ := hb
        cases ws with
        | nil => simp at hl
        | cons v ws =>
          obtain ⟨k1, k2, _⟩ := dbgB_ok b4
          obtain ⟨m1, m2, _⟩ := dbgB_ok hd
          refine tm_pss (pss_cons (ps_ostT (B := B) (newId := newId) (initId := initId) (bmB := bmB) (pe_var h0 (visB_ok hv) m1 m2) (pe_var b2 (visB_ok b3) k1 k2)) (pss_tm X r)) ?_
          refine ⟨v, hw 0 v rfl, .ref a, hs, a, C, rfl, T, hf g List.mem_cons_self, .inr ⟨d, done, ha, hd', by simp only [List.length_cons] at hn; omega, ?_⟩⟩
          refine ih r (i + 1) ws ((g, v) :: done) σ _ D b6 (by simpa using hl) (by simp only [List.length_cons] at hn ⊢; omega) (fun f h => hf f (List.mem_cons_of_mem _ h)) hs (fun j u e => ?_) (by rw [upd_ne (Ne.symm ne)]; exact ha) upd_same ne ?_
          · have := hw (j + 1) u (by simpa using e)
            rw [show i + 1 + j = i + (j + 1) by omega]
            exact this
          · rw [upd_upd]
            rw [List.zip_cons_cons, List.reverse_cons, List.append_assoc] at q
            exact q
      · cases hb
theorem ini_ok (T : OexT X.K C B newId initId bmB) {ps fs : List Str} {body : List Stmt} (hb : iniAll X.N ps X.env.scope fs body = true) (hf : ∀ f ∈ fs, PySem.W.findIn X.K (.ref C) f = some none) {ws : List V} (hl : ws.length = fs.length) {σ : L2.St} (hs : σ[0]? = some (some (.ref a)))
    (hw : ∀ j v, ws[j]? = some v → σ[1 + j]? = some (some v)) {H : Hp} {D : Ends} (ha : H a = some (exo a C none)) (q : ∀ d, H d = none → d ≠ a → D.nx σ (upd (upd H d (exd d (fs.zip ws).reverse)) a (exo a C (some d)))) : TMB X body D σ H := by
  unfold iniAll at hb
  split at hb
  · rename_i N y N' f fs hN
    simp only [Bool.and_eq_true, decide_eq_true_eq] at hb
    obtain ⟨_, b1, b2, b3, b4⟩ := hb
    have h0 : X.N[0]? = some y := by rw [hN]; rfl
    cases body with
    | nil => cases b4
    | cons st r =>
      unfold iniB at b4
      split at b4
      · rename_i e1 e2; cases e2
      · rename_i f0 fs0 y' yp g gp x xp ap r0 e1 e2
        obtain ⟨rfl, rfl⟩ := List.cons.inj e1
        obtain ⟨rfl, rfl⟩ := List.cons.inj e2
        simp only [Bool.and_eq_true, decide_eq_true_eq] at b4
        obtain ⟨rfl, c2, c3, c4, rfl, c6⟩ := b4
        cases ws with
        | nil => simp at hl
        | cons v ws =>
          obtain ⟨k1, k2, _⟩ := dbgB_ok c4
          obtain ⟨m1, m2, _⟩ := dbgB_ok b3
          refine tm_pss (pss_cons (ps_ostT (B := B) (newId := newId) (initId := initId) (bmB := bmB) (pe_var h0 (visB_ok b2) m1 m2) (pe_var c2 (visB_ok c3) k1 k2)) (pss_tm X r)) ?_
          refine ⟨v, hw 0 v rfl, .ref a, hs, a, C, rfl, T, hf g List.mem_cons_self, .inl ⟨ha, fun d hd ne => ?_⟩⟩
          refine ini_old T h0 b2 b3 (d := d) fs r 2 ws [(g, v)] σ _ D c6 (by simpa using hl) (by simp only [List.length_cons, List.length_nil] at b1 ⊢; omega) (fun f h => hf f (List.mem_cons_of_mem _ h)) hs (fun j u e => ?_) upd_same (by rw [upd_ne ne]; exact upd_same) ne ?_
          · have := hw (j + 1) u (by simpa using e)
            rw [show 2 + j = 1 + (j + 1) by omega]
            exact this
          · have q := q d hd ne
            rw [List.zip_cons_cons, List.reverse_cons] at q
            have e : upd (upd (upd H d (exd d [(g, v)])) a (exo a C (some d))) d (exd d ((fs.zip ws).reverse ++ [(g, v)])) = upd (upd H d (exd d ((fs.zip ws).reverse ++ [(g, v)]))) a (exo a C (some d)) := by
              funext b
              by_cases hb1 : b = d
              · subst hb1
                rw [upd_same, upd_ne ne, upd_same]
              · rw [upd_ne hb1]
                by_cases hb2 : b = a
                · subst hb2
                  rw [upd_same, upd_same]
                · rw [upd_ne hb2, upd_ne hb2, upd_ne hb1, upd_ne hb1]
            rw [e]
            exact q
      · cases b4
  · cases hb
end
/-- what C's own __init__ keeps -/
def spI (C : Addr) (fs : List Str) : Sp := fun vs H Q _ => ∃ (a : Addr) (ws : List V), vs = .ref a :: ws ∧ H a = some (exo a C none) ∧ ws.length = fs.length ∧ ∀ d, H d = none → d ≠ a → Q .non (upd (upd H d (exd d (fs.zip ws).reverse)) a (exo a C (some d)))
theorem ini_fn {P : Program} {w : World} {K : PySem.W.Frag} {mg : Str → Option Value} {base : Heap} {x qual : Str} {params : Arguments} {body : List Stmt} {scope : Scope} {dvs : List V} {kws : List (Str × V)} {f C : Addr} {fd : FuncData} {N ps fs : List Str} {B newId initId : String} {bmB : List Value}
    (F : FunD K x qual params body scope dvs kws f fd) (S : FnScope N ps scope) (T : OexT K C B newId initId bmB) (hb : iniAll N ps scope fs body = true) (hf : ∀ f ∈ fs, PySem.W.findIn K (.ref C) f = some none) : FnOk P w K mg base CXn 1 f fd ps (spI C fs) := by
  have hps : ps.length = fs.length + 1 := by
    unfold iniAll at hb
    split at hb
    · simp only [Bool.and_eq_true, decide_eq_true_eq] at hb
      exact hb.1
    · cases hb
  refine F.ok (k := 0) S (fun vs H Q E h => ?_) fun cdv A outer s H vs Q E hr h => ?_
  · obtain ⟨a, ws, rfl, _, hl, _⟩ := h
    rw [List.length_cons, hl, hps]
  · obtain ⟨a, ws, rfl, ha, hl, q⟩ := h
    refine ⟨_, pss_tm _ body, ?_⟩
    refine ini_ok (X := cxOf CXn P w K mg base N qual scope f cdv A outer s H E) T hb hf hl (a := a) ?_ (fun j v e => ?_) ha q
    · unfold L2.start
      rfl
    · have lj : j < ws.length := (List.getElem?_eq_some_iff.mp e).1
      unfold L2.start
      rw [List.getElem?_append_left (by simp only [List.length_map, List.length_cons]; omega), List.map_cons, show 1 + j = j + 1 by omega, List.getElem?_cons_succ, List.getElem?_map, e]
      rfl
theorem xmk_of {X : Cx} {C fI : Addr} {x qual xn : Str} {params : Arguments} {body : List Stmt} {scope : Scope} {fd : FuncData} {N ps fs : List Str} {B newId initId : String} {bmB : List Value}
    (F : FunD X.K x qual params body scope [] [] fI fd) (S : FnScope N ps scope) (T : OexT X.K C B newId initId bmB) (hb : iniAll N ps scope fs body = true) (hf : ∀ f ∈ fs, PySem.W.findIn X.K (.ref C) f = some none)
    (bd : ∀ (s : Shared) (us : List Value), us.length = ps.length → BindsTo s fd ⟨us, []⟩ (ps.zip us))
    (iC : PySem.W.findIn X.K (.ref C) "__init__" = some (some (.ref fI))) (tI : PySem.W.typeIn X.K (.ref fI) = some (.type "function")) (hr : Room 2 X.A) (hm : X.mg xn = some (.ref C)) : XMk X C xn fs := by
  intro pn xe W tk e es p pos t ha hn hg hdb
  have hps : ps.length = fs.length + 1 := by
    unfold iniAll at hb
    split at hb
    · simp only [Bool.and_eq_true, decide_eq_true_eq] at hb
      exact hb.1
    · cases hb
  have h9 : fs.length ≤ 900 := by
    unfold iniAll at hb
    split at hb
    · simp only [Bool.and_eq_true, decide_eq_true_eq] at hb
      exact hb.2.1
    · cases hb
  obtain ⟨n1, n2⟩ := Bool.and_eq_true_iff.mp (show (nst e && nsts es) = true from hn)
  have ha2 : PA (X.tr pn xe) (e :: es) (fun σ H Q => ∃ Q', t σ H Q' ∧ ∀ vs H1, Q' vs H1 → Q vs H1) := ⟨fun pos pins s σ H Q I h => by
    obtain ⟨Q', h1, h2⟩ := h
    exact thn (ha.run pos pins s σ H _ I h1) fun us s1 ⟨vs, H1, I1, r1, q⟩ => ⟨vs, H1, I1, r1, h2 _ _ q⟩⟩
  have F1 : FnOk (X.tr pn xe).prog (X.tr pn xe).w (X.tr pn xe).K (X.tr pn xe).mg (X.tr pn xe).base CXn 1 fI fd ps (spI C fs) := ini_fn F S T hb hf
  have pm := pmk_oexT (X := X.tr pn xe) (CX := CXn) (x := xn) (p := p) (pos := pos) (ds := []) (dvs := []) T iC tI F1 hr (binds_of bd) .nil (fun _ _ _ _ _ _ _ z => z.elim) hg hm ha2 hdb (nst_ok n1 es (X.tr pn xe).env) (plain_ok n2 _ (X.tr pn xe).env)
  intro pins s σ H Q I h
  refine pm pins s σ H Q I ⟨_, h, fun vs H1 q => ?_⟩
  obtain ⟨q1, q2⟩ := q
  refine ⟨by omega, fun a h1 => ?_⟩
  refine ⟨a, vs, by rw [List.append_nil], upd_same, q1, fun d hd ne => ?_⟩
  rw [upd_ne ne] at hd
  refine ⟨rfl, d, _, upd_same, by rw [upd_ne ne]; exact upd_same, hd, ?_⟩
  have e : upd (del (upd (upd (upd H1 a (exo a C none)) d (exd d (fs.zip vs).reverse)) a (exo a C (some d))) a) d (.xd (fs.zip vs).reverse) = upd H1 d (.xd (fs.zip vs).reverse) := by
    funext b
    by_cases hb1 : b = d
    · rw [hb1, upd_same, upd_same]
    · rw [upd_ne hb1, upd_ne hb1]
      by_cases hb2 : b = a
      · rw [hb2, del_same, h1]
      · rw [del_ne hb2, upd_ne hb2, upd_ne hb1, upd_ne hb2]
  rw [e]
  exact q2 d hd
end Dv
end

section
set_option Elab.async false
set_option autoImplicit false
set_option linter.all false
set_option maxRecDepth 100000
set_option maxHeartbeats 4000000
/-! DvR: a module's tables, and what is looked up behind its top. -/
namespace Dv
open PySem L2
/-- a class: a plain one, or an exception's -/
structure CI where
  nm : Str
  ini : Option Nat := none
  ms : List (Nat × Nat) := []
  fs : List Str := []
  xc : Bool := false
  raw : Bool := false
  ve : Bool := true
  xi : Option (List Str) := none
  xg : Nat := 0
  sup : List Str := []
inductive GV where
  | int (i : Int) | str (s : Str) | sts (l : List Str)
def GV.d : GV → D
  | .int i => .int i | .str s => .str s | .sts l => .ktp l
abbrev Dm : Type := He.DefD × Def × List Str × List Str
structure Tabs where
  cs : List (Nat × CI)
  ds : List (Nat × Dm)
  gs : List (Nat × (Str × GV))
  mn : List (Nat × Str)
namespace Tabs
variable (t : Tabs)
def cn (c : Nat) : Str := match t.cs.lookup c with | some c => c.nm | none => ""
def mN (m : Nat) : Str := match t.mn.lookup m with | some m => m | none => ""
def at_ (f : Nat) : Str × Option Str := match t.ds.lookup f with | some d => d.1.at_ | none => ("", none)
def G : Gl where
  con := fun k => match t.gs.lookup k with | some g => some g.2.d | none => none
  mid := fun c m => match t.cs.lookup c with | some c => c.ms.lookup m | none => none
  ini := fun c => match t.cs.lookup c with | some c => c.ini | none => none
  sub := fun k c => match t.cs.lookup k with | some k => k.sup.contains (t.cn c) | none => false
  exi := fun c => match t.cs.lookup c with | some c => c.xi | none => none
  mn := t.mN
  fok := fun c f => match t.cs.lookup c with | some c => !c.xc && c.fs.contains f | none => false
  isc := fun c => match t.cs.lookup c with | some c => c.xc | none => false
  xok := fun c f => match t.cs.lookup c with | some c => c.xc && c.fs.contains f | none => false
  xraw := fun c => match t.cs.lookup c with | some c => c.xc && c.raw | none => false
def B : Tb where
  isf := fun f => match t.ds.lookup f with | some d => d.1.at_.2.isNone | none => false
  cn := t.cn
  fn := fun f => (t.at_ f).1
  gn := fun k => match t.gs.lookup k with | some g => g.1 | none => ""
  cm := true
  xi := 0
def P (f : Nat) : Option Def := match t.ds.lookup f with | some d => some d.2.1 | none => none
def CA (K : PySem.W.Frag) (c : Nat) : Addr := He.ga K (t.cn c)
def FA (K : PySem.W.Frag) (f : Nat) : Addr := He.fAd K (t.at_ f)
end Tabs
/-! ### looks -/
def freeAll : List Str := ["len", "int", "abs", "min", "max", "sum", "str", "list", "tuple", "sorted", "bool", "range", "isinstance"]
def excCB (K : PySem.W.Frag) (D : Addr) : Bool :=
  decide (PySem.W.findIn K (.ref D) "__getattribute__" = some (some (.builtin "BaseException.__getattribute__"))) &&
  decide (PySem.W.findIn K (.ref D) "__getattr__" = some none) &&
  decide (PySem.W.subIn K (.ref D) (.type "BaseException") = some true) &&
  PySem.W.hasDictIn K D &&
  decide (PySem.W.findIn K (.ref D) "__class__" = some (some (.builtin "object.__class__"))) &&
  decide (PySem.W.specialIn K (.builtin "object.__class__") "__get__" = some (some (.builtin "getset_descriptor.__get__"))) &&
  decide (PySem.W.takesIn K (.builtin "object.__class__") = some true) &&
  decide (PySem.W.mroIn K D (.type "object") = some true)
theorem excCB_ok {K : PySem.W.Frag} {D : Addr} (h : excCB K D = true) : ExcC K D := by
  unfold excCB at h
  simp only [Bool.and_eq_true, decide_eq_true_eq] at h
  obtain ⟨⟨⟨⟨⟨⟨⟨h1, h2⟩, h3⟩, h4⟩, h5⟩, h6⟩, h7⟩, h8⟩ := h
  exact ⟨h1, h2, h3, h4, h5, h6, h7, h8⟩
def exBase : List Value := [.type "Exception", .type "BaseException", .type "object"]
def rawB (K : PySem.W.Frag) (ve : Bool) (C : Addr) : Bool := PySem.W.keepIn K (.ref C) && (decide (PySem.W.subIn K (.ref C) (.type "BaseException") = some true) && (decide (PySem.W.typeIn K (.ref C) = some (.type "type")) &&
  (match ve with | true => PySem.W.excIn K C He.veBase "ValueError.__new__" | false => PySem.W.excIn K C exBase "Exception.__new__")))
def oexIn (K : PySem.W.Frag) (C : Addr) (bmB : List Value) (newId : String) : Bool := match K.lookup C with
  | some ⟨.type "type", _, .cls cd, sl⟩ => (match cd.mro, sl.toList with
    | .ref C' :: bm, [_, _, _, _, some (.builtin n), _] => decide (C' = C) && (n == newId && (!cd.hasDel && (cd.hasDict && PySem.W.excTail bmB bm)))
    | _, _ => false)
  | _ => false
theorem oexIn_ok {K : PySem.W.Frag} {C : Addr} {bmB : List Value} {newId : String} (q : oexIn K C bmB newId = true) :
    ∃ nm q N bs bm sn sub ab col dd k0 k1 k2 k3 k5, K.lookup C = some (excClassObj nm q C N bs bm true sn sub ab col dd k0 k1 k2 k3 k5 newId) ∧ PySem.W.excTail bmB bm = true := by
  unfold oexIn at q
  split at q
  · rename_i dd cd sl ho
    split at q
    · rename_i C' bm k0 k1 k2 k3 n k5 hm hs
      simp only [Bool.and_eq_true, beq_iff_eq, Bool.not_eq_true', decide_eq_true_eq] at q
      obtain ⟨rfl, rfl, hdel, hd, ht⟩ := q
      obtain ⟨nm, bs, mro, ns, qn, hdi, sn, sub, ab, col, del⟩ := cd
      dsimp only at hm hdel hd
      subst hm hdel hd
      have hsl : sl = #[k0, k1, k2, k3, some (.builtin n), k5] := by
        obtain ⟨l⟩ := sl
        simp only at hs
        rw [hs]
      subst hsl
      exact ⟨nm, qn, ns, bs, bm, sn, sub, ab, col, dd, k0, k1, k2, k3, k5, ho, ht⟩
    · cases q
  · cases q
/-- a class with its own __init__ -/
def oexB (K : PySem.W.Frag) (ve : Bool) (C : Addr) : Bool := PySem.W.keepIn K (.ref C) && (decide (PySem.W.subIn K (.ref C) (.type "BaseException") = some true) && (decide (PySem.W.typeIn K (.ref C) = some (.type "type")) &&
  (decide (PySem.W.findIn K (.ref C) "__setattr__" = some (some (.builtin "object.__setattr__"))) && (decide (PySem.W.findIn K (.ref C) "__init__" = some (some (.ref (He.ma K C "__init__")))) && (decide (PySem.W.typeIn K (.ref (He.ma K C "__init__")) = some (.type "function")) &&
  (match ve with | true => oexIn K C He.veBase "ValueError.__new__" | false => oexIn K C exBase "Exception.__new__"))))))
theorem oexB_ok {K : PySem.W.Frag} {ve : Bool} {C : Addr} (h : oexB K ve C = true) : (∃ B newId initId bmB, OexT K C B newId initId bmB) ∧ PySem.W.findIn K (.ref C) "__init__" = some (some (.ref (He.ma K C "__init__"))) ∧ PySem.W.typeIn K (.ref (He.ma K C "__init__")) = some (.type "function") := by
  unfold oexB at h
  simp only [Bool.and_eq_true, decide_eq_true_eq] at h
  obtain ⟨h1, h2, h3, h4, h5, h6, h7⟩ := h
  refine ⟨?_, h5, h6⟩
  cases ve with
  | true => exact ⟨_, _, _, _, ⟨F.excBase_ValueError, F.store_ValueError.passes, by decide +kernel, oexIn_ok h7, h4, h2, h3, h1⟩⟩
  | false => exact ⟨_, _, _, _, ⟨F.excBase_Exception, F.store_Exception.passes, by decide +kernel, oexIn_ok h7, h4, h2, h3, h1⟩⟩
namespace Tabs
variable (t : Tabs) (K : PySem.W.Frag)
def okP (c : CI) : Bool := (He.Fa.glo c.nm).ok K && ((He.Fa.cls c.nm).ok K && ((c.fs.all fun f => (He.Fa.noat c.nm f).ok K) && ((c.ms.all fun q => (He.Fa.meth c.nm (t.mN q.1)).ok K && (decide (t.at_ q.2 = (c.nm, some (t.mN q.1))) && (t.ds.lookup q.2).isSome)) &&
  (match c.ini with | none => true | some g => (He.Fa.mkr c.nm).ok K && (decide (t.at_ g = (c.nm, some ("__init__" : Str))) && (t.ds.lookup g).isSome)))))
def okX (c : CI) : Bool := (He.Fa.glo c.nm).ok K && (excCB K (He.ga K c.nm) && ((t.cs.all fun d => !d.2.xc || (decide (PySem.W.kitOne K (.ref (He.ga K c.nm)) (.ref (He.ga K d.2.nm)) = some (c.sup.contains d.2.nm)) && decide (PySem.W.exmOne K (.ref (He.ga K c.nm)) (.ref (He.ga K d.2.nm)) = some (c.sup.contains d.2.nm)))) &&
  ((c.fs.all fun f => xfB K (He.ga K c.nm) && decide (PySem.W.findIn K (.ref (He.ga K c.nm)) f = some none)) && ((!c.raw || rawB K c.ve (He.ga K c.nm)) && ((c.ms.isEmpty && c.ini.isNone) && (match c.xi with | none => true | some fs => oexB K c.ve (He.ga K c.nm) && fs.all fun f => (He.Fa.noat c.nm f).ok K))))))
def okG (g : Str × GV) : Bool := match g.2 with
  | .int i => (He.Fa.int g.1 i).ok K
  | .str s => (He.Fa.str g.1 s).ok K
  | .sts l => (He.Fa.glo g.1).ok K && He.tupB K g.1 (l.map He.Dv.str)
def okD (d : He.DefD × Def × List Str × List Str) : Bool := d.1.ok K && (match d.1.at_.2 with
  | none => (He.Fa.glo d.1.at_.1).ok K
  | some _ => true)
def ok : Bool := (freeAll.all fun x => (He.Fa.free x).ok K) && ((t.ds.all fun d => okD K d.2) && ((t.cs.all fun c => if c.2.xc = true then t.okX K c.2 else t.okP K c.2) && (t.gs.all fun g => okG K g.2)))
/-! ### the Hook -/
def fns : List He.DefD := t.ds.map (·.2.1)
abbrev Al : Type := Bool × List He.FnW
def obs : Al := (t.ok K, t.fns.map fun d => He.fnW K d.at_)
def val : Al := (true, t.fns.map He.DefD.val)
def Says : Prop := t.obs K = t.val
def grw (g : Addr → Option Obj) (as : List Addr) : List Addr := as.flatMap fun a => match g a with
  | some o => He.refsD o
  | none => []
def reach (g : Addr → Option Obj) : List Addr :=
  let a := grw g [mainGlobals]
  let b := grw g a
  let c := grw g b
  let d := grw g c
  mainGlobals :: (a ++ (b ++ (c ++ d)))
def obsG (g : Addr → Option Obj) : Al := t.obs (He.frG g (reach g))
def hook : PySem.W.Hook where
  α := Al
  obs := fun s => t.obsG s.heap.get?
  val := fun _ => t.val
  says := fun _ h => ∃ K : PySem.W.Frag, K.In h ∧ t.Says K
  of := fun _ _ e => ⟨_, He.frG_in, e⟩
  keeps := fun _ _ _ ⟨K, hK, c⟩ k => ⟨K, PySem.W.Frag.In.keeps hK k, c⟩
theorem obsG_eq {g : Addr → Option Obj} {s : Shared} (h : ∀ a, g a = s.heap.get? a) : t.obsG g = t.hook.obs s := by
  have e : g = s.heap.get? := funext h
  rw [e] <;> rfl
end Tabs
/-! ### what the text's defs must be -/
def scB (N ps : List Str) (sc : Scope) : Bool := (match sc.kind with | .function => true | _ => false) && (!sc.isCoroutine && (!sc.isGenerator && (decide N.Nodup && (decide (N.take ps.length = ps) &&
  ((ps.all fun x => match sc.names.lookup x with | some .local => true | some .cell => true | _ => false) && (sc.names.all fun y => match y.2 with | .free => false | _ => true))))))
theorem scB_ok {N ps : List Str} {sc : Scope} (h : scB N ps sc = true) : FnScope N ps sc := by
  unfold scB at h
  simp only [Bool.and_eq_true, Bool.not_eq_true', decide_eq_true_eq] at h
  obtain ⟨h1, h2, h3, h4, h5, h6, h7⟩ := h
  refine ⟨?_, h2, h3, h4, h5, fun x hx => ?_, fun y hy e => ?_⟩
  · split at h1
    · assumption
    · cases h1
  · have := List.all_eq_true.mp h6 x hx
    split at this
    · exact .inl (by assumption)
    · exact .inr (by assumption)
    · cases this
  · have := List.all_eq_true.mp h7 y hy
    rw [e] at this
    cases this
/-- a def of the tables -/
structure OkDef (t : Tabs) (d : He.DefD × Def × List Str × List Str) : Prop where
  sc : scB d.2.2.1 d.2.2.2 d.1.scope = true
  np : d.2.2.2.length = d.2.1.np
  ns : d.2.2.1.length = d.2.1.ns
  dfl : d.1.dfl = []
  kwd : d.1.kwd = []
  m : (ms t.G d.2.2.1 d.1.scope d.2.1.body t.B).b d.1.body = true
  bd : ∀ (K : PySem.W.Frag) (f : Addr) (fd : FuncData), FunD K d.1.name d.1.qual d.1.params d.1.body d.1.scope [] [] f fd → ∀ (s : Shared) (us : List Value), us.length = d.2.2.2.length → BindsTo s fd ⟨us, []⟩ (d.2.2.2.zip us)
inductive OkAll (t : Tabs) : List (Nat × Dm) → Prop
  | nil : OkAll t []
  | cons {d : Nat × Dm} {l : List (Nat × Dm)} (h : OkDef t d.2) (r : OkAll t l) : OkAll t (d :: l)
theorem mem_lookup {α : Type} {l : List (Nat × α)} {k : Nat} {v : α} (h : l.lookup k = some v) : (k, v) ∈ l := by
  induction l with
  | nil => cases h
  | cons a l ih =>
    obtain ⟨g, x⟩ := a
    rw [List.lookup_cons] at h
    split at h
    · rename_i e
      cases h
      have : k = g := by simpa using e
      rw [this]
      exact List.mem_cons_self
    · exact List.mem_cons_of_mem _ (ih h)
theorem OkAll.mem {t : Tabs} {l : List (Nat × Dm)} (a : OkAll t l) {d : Nat × Dm} (e : d ∈ l) : OkDef t d.2 := by
  induction a with
  | nil => cases e
  | cons h r ih =>
    rcases List.mem_cons.mp e with e | e
    · rw [e]; exact h
    · exact ih e
theorem contains_of {l : List Str} {x : Str} (h : l.contains x = true) : x ∈ l := by simpa using h
theorem Tabs.fun_of {t : Tabs} {K : PySem.W.Frag} {f : Nat} {x : He.DefD × Def × List Str × List Str} (c : t.Says K) (a : OkAll t t.ds) (ex : t.ds.lookup f = some x) : OkDef t x ∧ ∃ fd, FunD K x.1.name x.1.qual x.1.params x.1.body x.1.scope [] [] (t.FA K f) fd := by
  have ok : t.ok K = true := congrArg (fun z : Tabs.Al => z.1) c
  have fv : t.fns.map (fun d => He.fnW K d.at_) = t.fns.map He.DefD.val := congrArg (fun z : Tabs.Al => z.2) c
  obtain ⟨_, ok⟩ := Bool.and_eq_true_iff.mp ok
  obtain ⟨o2, ok⟩ := Bool.and_eq_true_iff.mp ok
  have o := OkAll.mem a (mem_lookup ex)
  have q := List.all_eq_true.mp o2 (f, x) (mem_lookup ex)
  unfold okD at q
  obtain ⟨q1, _⟩ := Bool.and_eq_true_iff.mp q
  have hm : x.1 ∈ t.fns := List.mem_map.mpr ⟨(f, x), mem_lookup ex, rfl⟩
  have e2 : He.fnW K x.1.at_ = x.1.val := List.map_inj_left.mp fv x.1 hm
  obtain ⟨fd, F⟩ := He.DefD.funD e2 q1
  have z1 : x.1.dvs K = [] := by unfold He.DefD.dvs; rw [o.dfl]; rfl
  have z2 : x.1.kws K = [] := by unfold He.DefD.kws; rw [o.kwd]; rfl
  rw [z1, z2] at F
  have hf : t.FA K f = He.fAd K x.1.at_ := by unfold Tabs.FA Tabs.at_; rw [ex]
  rw [hf]
  exact ⟨o, fd, F⟩
theorem Tabs.def_of {t : Tabs} {K : PySem.W.Frag} {f : Nat} {x : He.DefD × Def × List Str × List Str} (c : t.Says K) (a : OkAll t t.ds) (ex : t.ds.lookup f = some x) : ∃ fd, DefF K t.G t.B (t.FA K f) x.2.1 fd x.2.2.2 := by
  obtain ⟨o, fd, F⟩ := Tabs.fun_of c a ex
  exact ⟨fd, _, _, _, _, _, _, F, scB_ok o.sc, o.np, o.ns, o.bd K _ fd F, o.m⟩
/-- the classes with an __init__ of their own, as the text has it -/
def Tabs.xiOk (t : Tabs) : Bool := t.cs.all fun c => match c.2.xi with
  | none => true
  | some fs => c.2.xc && (match t.ds.lookup c.2.xg with
    | some x => decide (t.at_ c.2.xg = (c.2.nm, some ("__init__" : Str))) && iniAll x.2.2.1 x.2.2.2 x.1.scope fs x.1.body
    | none => false)
theorem Tabs.xmk {t : Tabs} {P₀ : Program} {w : World} {K : PySem.W.Frag} {mg : Str → Option Value} {h : Heap} (KX : K.In h) (Gm : h.Ns mainGlobals mg) (c : t.Says K) (a : OkAll t t.ds) (xo : t.xiOk = true) :
    ∀ c fs, t.G.exi c = some fs → ∀ X : Cx, X.prog = P₀ → X.w = w → X.K = K → X.mg = mg → Room 2 X.A → XMk X (t.CA K c) (t.B.cn c) fs := by
  intro cc fs e X e1 e2 e3 e4 hr
  have ok : t.ok K = true := congrArg (fun z : Tabs.Al => z.1) c
  obtain ⟨o1, ok⟩ := Bool.and_eq_true_iff.mp ok
  obtain ⟨o2, ok⟩ := Bool.and_eq_true_iff.mp ok
  obtain ⟨o3, o4⟩ := Bool.and_eq_true_iff.mp ok
  have e : (match t.cs.lookup cc with | some c => c.xi | none => none) = some fs := e
  split at e
  · rename_i ci ec
    have q0 := List.all_eq_true.mp xo (cc, ci) (mem_lookup ec)
    simp only [e] at q0
    obtain ⟨hx, q0⟩ := Bool.and_eq_true_iff.mp q0
    split at q0
    · rename_i x ex
      obtain ⟨q1, q2⟩ := Bool.and_eq_true_iff.mp q0
      have q1 := of_decide_eq_true q1
      have q := List.all_eq_true.mp o3 (cc, ci) (mem_lookup ec)
      rw [if_pos hx] at q
      unfold Tabs.okX at q
      simp only [Bool.and_eq_true] at q
      have q5 := q.2.2.2.2.2.2
      rw [e] at q5
      simp only [Bool.and_eq_true] at q5
      obtain ⟨⟨B, newId, initId, bmB, T⟩, i1, i2⟩ := oexB_ok q5.1
      obtain ⟨o, fd, F⟩ := Tabs.fun_of c a ex
      have cn : t.cn cc = ci.nm := by unfold Tabs.cn; rw [ec]
      have hc : t.CA K cc = He.ga K ci.nm := by unfold Tabs.CA; rw [cn]
      have hf : t.FA K ci.xg = He.ma K (He.ga K ci.nm) "__init__" := by unfold Tabs.FA; rw [q1]; rfl
      have hm : X.mg (t.B.cn cc) = some (.ref (t.CA K cc)) := by
        rw [e4]
        show mg (t.cn cc) = _
        rw [hc, cn]
        exact He.glo_ok KX Gm q.1
      have bd := o.bd K _ fd F
      rw [hf] at F
      rw [hc] at hm ⊢
      subst e3
      exact xmk_of F (scB_ok o.sc) T q2 (fun f hf => He.noat_ok (List.all_eq_true.mp q5.2 f hf)) bd i1 i2 hr hm
    · cases q0
  · cases e
/-! ### the module, as the walk wants it -/
theorem Tabs.wd {t : Tabs} {P₀ : Program} {w : World} {K : PySem.W.Frag} {mg : Str → Option Value} {h : Heap} (KX : K.In h) (Gm : h.Ns mainGlobals mg) (c : t.Says K) (a : OkAll t t.ds)
    (xmk : ∀ c fs, t.G.exi c = some fs → ∀ X : Cx, X.prog = P₀ → X.w = w → X.K = K → X.mg = mg → Room 2 X.A → XMk X (t.CA K c) (t.B.cn c) fs) : Wd P₀ w K mg t.G t.P t.B (t.CA K) (t.FA K) := by
  have ok : t.ok K = true := congrArg (fun z : Tabs.Al => z.1) c
  have fv : t.fns.map (fun d => He.fnW K d.at_) = t.fns.map He.DefD.val := congrArg (fun z : Tabs.Al => z.2) c
  obtain ⟨o1, ok⟩ := Bool.and_eq_true_iff.mp ok
  obtain ⟨o2, ok⟩ := Bool.and_eq_true_iff.mp ok
  obtain ⟨o3, o4⟩ := Bool.and_eq_true_iff.mp ok
  have free : ∀ x, x ∈ freeAll → mg x = none := fun x hx => He.free_ok KX Gm (List.all_eq_true.mp o1 x hx)
  have dd : ∀ i d, t.ds.lookup i = some d → okD K d = true := fun i d e => List.all_eq_true.mp o2 (i, d) (mem_lookup e)
  have cc : ∀ i c, t.cs.lookup i = some c → (if c.xc = true then t.okX K c else t.okP K c) = true := fun i c e => List.all_eq_true.mp o3 (i, c) (mem_lookup e)
  have lt : ∀ g, (t.ds.lookup g).isSome = true → ∃ d, t.P g = some d := fun g hg => by
    obtain ⟨x, e⟩ := Option.isSome_iff_exists.mp hg
    exact ⟨x.2.1, by unfold Tabs.P; rw [e]⟩
  have plain : ∀ i c, t.cs.lookup i = some c → c.xc = false → t.okP K c = true := fun i c e hx => by
    have := cc i c e
    rw [if_neg (by rw [hx]; decide)] at this
    exact this
  have exc : ∀ i c, t.cs.lookup i = some c → c.xc = true → t.okX K c = true := fun i c e hx => by
    have := cc i c e
    rw [if_pos hx] at this
    exact this
  have msx : ∀ (i : Nat) (c : CI), t.cs.lookup i = some c → c.xc = true → c.ms = [] ∧ c.ini = none := fun i c e hx => by
    have q := exc i c e hx
    unfold Tabs.okX at q
    simp only [Bool.and_eq_true] at q
    exact ⟨by simpa using q.2.2.2.2.2.1.1, by simpa using q.2.2.2.2.2.1.2⟩
  have cnE : ∀ (i : Nat) (c : CI), t.cs.lookup i = some c → t.cn i = c.nm := fun i c e => by unfold Tabs.cn; rw [e]
  refine {
    cm := rfl
    bln := fun b => free _ (by cases b <;> decide +kernel)
    tyn := fun b => free _ (by cases b <;> decide +kernel)
    rgn := free _ (by decide +kernel)
    isn := free _ (by decide +kernel)
    con := fun k d e => ?_
    fns := fun f e => ?_
    mth := fun c m g e => ?_
    mak := fun c g e => ?_
    fld := fun c f e => ?_
    xcl := fun c e => ?_
    xsb := fun k c e1 e2 => ?_
    xfl := fun k f e => ?_
    xrw := fun c e => ?_
    xmk := xmk
    defs := fun f d e => ?_ }
  · have e : (match t.gs.lookup k with | some g => some g.2.d | none => none) = some d := e
    split at e
    · rename_i g eg
      cases e
      have q := List.all_eq_true.mp o4 (k, g) (mem_lookup eg)
      have hn : t.B.gn k = g.1 := by show (match t.gs.lookup k with | some g => g.1 | none => "") = _; rw [eg]
      rw [hn]
      obtain ⟨x, v⟩ := g
      cases v with
      | int i =>
        obtain ⟨tk, e⟩ := He.int_ok KX Gm q
        exact ⟨.int i, _, e, ⟨tk, rfl⟩, fun H ρ => of_int⟩
      | str s =>
        obtain ⟨tk, e⟩ := He.str_ok KX Gm q
        exact ⟨.str s, _, e, ⟨tk, rfl⟩, fun H ρ => of_str⟩
      | sts l =>
        obtain ⟨q1, q2⟩ := Bool.and_eq_true_iff.mp q
        refine ⟨.ref (He.ga K x), _, He.glo_ok KX Gm q1, rfl, fun H ρ => ?_⟩
        show RV K H ρ (.ktp l) _
        simp only [RV]
        refine ⟨_, rfl, ?_⟩
        have z := He.tupB_ok q2 (fun _ => none)
        rcases z with (z | ⟨_, z⟩) | z
        · cases z
        · cases z
        · obtain ⟨o, its, n, z1, z2, z3, z4, z5⟩ := z
          refine ⟨o, its, n, z1, z2, z3, z4, ?_⟩
          rw [List.map_map] at z5
          exact z5
    · cases e
  · have e : (match t.ds.lookup f with | some d => d.1.at_.2.isNone | none => false) = true := e
    split at e
    · rename_i d ed
      have q := dd f d ed
      unfold okD at q
      obtain ⟨_, q⟩ := Bool.and_eq_true_iff.mp q
      have ha : t.at_ f = d.1.at_ := by unfold Tabs.at_; rw [ed]
      obtain ⟨y, e⟩ : ∃ y, d.1.at_ = (y, none) := ⟨d.1.at_.1, by
        have := Option.isNone_iff_eq_none.mp e
        rw [← this]⟩
      rw [e] at q
      refine ⟨?_, d.2.1, by unfold Tabs.P; rw [ed]⟩
      show mg (t.at_ f).1 = some (.ref (He.fAd K (t.at_ f)))
      rw [ha, e]
      exact He.glo_ok KX Gm q
    · cases e
  · have e : (match t.cs.lookup c with | some c => c.ms.lookup m | none => none) = some g := e
    split at e
    · rename_i ci ec
      have hx : ci.xc = false := by
        cases hx : ci.xc with
        | false => rfl
        | true => rw [(msx c ci ec hx).1] at e; cases e
      have q := plain c ci ec hx
      unfold Tabs.okP at q
      simp only [Bool.and_eq_true] at q
      have q4 := List.all_eq_true.mp q.2.2.2.1 (m, g) (mem_lookup e)
      simp only [Bool.and_eq_true, decide_eq_true_eq] at q4
      obtain ⟨k1, k2, k3⟩ := q4
      have hc : t.CA K c = He.ga K ci.nm := by unfold Tabs.CA; rw [cnE c ci ec]
      have hf : t.FA K g = He.ma K (He.ga K ci.nm) (t.mN m) := by unfold Tabs.FA; rw [k2]; rfl
      refine ⟨by rw [hc]; exact He.cls_ok q.2.1, ?_, lt g k3⟩
      rw [hc, hf]
      exact He.meth_ok k1
    · cases e
  · have e : (match t.cs.lookup c with | some c => c.ini | none => none) = some g := e
    split at e
    · rename_i ci ec
      have hx : ci.xc = false := by
        cases hx : ci.xc with
        | false => rfl
        | true => rw [(msx c ci ec hx).2] at e; cases e
      have q := plain c ci ec hx
      unfold Tabs.okP at q
      simp only [Bool.and_eq_true] at q
      have q5 := q.2.2.2.2
      rw [e] at q5
      simp only [Bool.and_eq_true, decide_eq_true_eq] at q5
      obtain ⟨k1, k2, k3⟩ := q5
      have hc : t.CA K c = He.ga K ci.nm := by unfold Tabs.CA; rw [cnE c ci ec]
      have hf : t.FA K g = He.ma K (He.ga K ci.nm) "__init__" := by unfold Tabs.FA; rw [k2]; rfl
      refine ⟨?_, ?_, lt g k3⟩
      · show mg (t.cn c) = _
        rw [hc, cnE c ci ec]
        exact He.glo_ok KX Gm q.1
      · rw [hc, hf]
        exact He.mkr_ok k1
    · cases e
  · have e : (match t.cs.lookup c with | some c => !c.xc && c.fs.contains f | none => false) = true := e
    split at e
    · rename_i ci ec
      obtain ⟨e1, e2⟩ := Bool.and_eq_true_iff.mp e
      have q := plain c ci ec (by simpa using e1)
      unfold Tabs.okP at q
      simp only [Bool.and_eq_true] at q
      have hc : t.CA K c = He.ga K ci.nm := by unfold Tabs.CA; rw [cnE c ci ec]
      rw [hc]
      exact ⟨He.cls_ok q.2.1, He.noat_ok (List.all_eq_true.mp q.2.2.1 f (contains_of e2))⟩
    · cases e
  · have e : (match t.cs.lookup c with | some c => c.xc | none => false) = true := e
    split at e
    · rename_i ci ec
      have q := exc c ci ec e
      unfold Tabs.okX at q
      simp only [Bool.and_eq_true] at q
      have hc : t.CA K c = He.ga K ci.nm := by unfold Tabs.CA; rw [cnE c ci ec]
      refine ⟨?_, by rw [hc]; exact excCB_ok q.2.1⟩
      show mg (t.cn c) = _
      rw [hc, cnE c ci ec]
      exact He.glo_ok KX Gm q.1
    · cases e
  · have e1 : (match t.cs.lookup k with | some c => c.xc | none => false) = true := e1
    have e2 : (match t.cs.lookup c with | some c => c.xc | none => false) = true := e2
    split at e1
    · rename_i ki ek
      split at e2
      · rename_i ci ec
        have q := exc k ki ek e1
        unfold Tabs.okX at q
        simp only [Bool.and_eq_true] at q
        have q3 := List.all_eq_true.mp q.2.2.1 (c, ci) (mem_lookup ec)
        rw [e2] at q3
        simp only [Bool.not_true, Bool.false_or, Bool.and_eq_true, decide_eq_true_eq] at q3
        have hk : t.CA K k = He.ga K ki.nm := by unfold Tabs.CA; rw [cnE k ki ek]
        have hc : t.CA K c = He.ga K ci.nm := by unfold Tabs.CA; rw [cnE c ci ec]
        have hs : t.G.sub k c = ki.sup.contains ci.nm := by
          show (match t.cs.lookup k with | some k => k.sup.contains (t.cn c) | none => false) = _
          rw [ek, cnE c ci ec]
        rw [hk, hc, hs]
        exact q3
      · cases e2
    · cases e1
  · have e : (match t.cs.lookup k with | some c => c.xc && c.fs.contains f | none => false) = true := e
    split at e
    · rename_i ci ec
      obtain ⟨e1, e2⟩ := Bool.and_eq_true_iff.mp e
      have q := exc k ci ec e1
      unfold Tabs.okX at q
      simp only [Bool.and_eq_true] at q
      have q4 := List.all_eq_true.mp q.2.2.2.1 f (contains_of e2)
      simp only [Bool.and_eq_true, decide_eq_true_eq] at q4
      have hc : t.CA K k = He.ga K ci.nm := by unfold Tabs.CA; rw [cnE k ci ec]
      rw [hc]
      exact ⟨xfB_ok q4.1, q4.2⟩
    · cases e
  · have e : (match t.cs.lookup c with | some c => c.xc && c.raw | none => false) = true := e
    split at e
    · rename_i ci ec
      obtain ⟨e1, e2⟩ := Bool.and_eq_true_iff.mp e
      have q := exc c ci ec e1
      unfold Tabs.okX at q
      simp only [Bool.and_eq_true] at q
      have q5 := q.2.2.2.2.1
      rw [e2] at q5
      simp only [Bool.not_true, Bool.false_or] at q5
      unfold rawB at q5
      simp only [Bool.and_eq_true, decide_eq_true_eq] at q5
      have hc : t.CA K c = He.ga K ci.nm := by unfold Tabs.CA; rw [cnE c ci ec]
      refine ⟨?_, by rw [hc]; exact q5.1, by rw [hc]; exact ⟨q5.2.1, q5.2.2.1⟩, ?_⟩
      · show mg (t.cn c) = _
        rw [hc, cnE c ci ec]
        exact He.glo_ok KX Gm q.1
      · rw [hc]
        have q6 := q5.2.2.2
        split at q6
        · exact ⟨_, _, _, _, F.excBase_ValueError, q6⟩
        · exact ⟨_, _, _, _, F.excBase_Exception, q6⟩
    · cases e
  · have e : (match t.ds.lookup f with | some d => some d.2.1 | none => none) = some d := e
    split at e
    · rename_i x ex
      cases e
      obtain ⟨fd, z⟩ := Tabs.def_of c a ex
      exact ⟨fd, _, z⟩
    · cases e
/-- the law's def behind the top -/
theorem Tabs.law {t : Tabs} {P₀ : Program} {w : World} {K : PySem.W.Frag} {h : Heap} {mg : Str → Option Value} {fa : Addr} {lw : Str} {f n : Nat} {x : He.DefD × Def × List Str × List Str} {y : Str} (X : K.In h) (Gm : h.Ns mainGlobals mg) (hfa : mg lw = some (.ref fa)) (c : t.Says K) (a : OkAll t t.ds)
    (ex : t.ds.lookup f = some x) (hl : x.1.at_ = (lw, none)) (hy : x.2.2.2 = [y]) (xo : t.xiOk = true) :
    ∃ fd : FuncData, (∀ (s : Shared) (v : Value), BindsTo s fd ⟨[v], []⟩ [(y, v)]) ∧ ∀ base : Heap, K.In base → base.Ns mainGlobals mg → FnOk P₀ w K mg base CXn (2 * n + 1) fa fd [y] (fun vs H Q _ => spC (t.CA K) K (callN t.G t.P n) f vs H Q fun _ _ _ => False) := by
  have W := Tabs.wd (P₀ := P₀) (w := w) X Gm c a (Tabs.xmk X Gm c a xo)
  have hP : t.P f = some x.2.1 := by unfold Tabs.P; rw [ex]
  have hi : t.B.isf f = true := by
    show (match t.ds.lookup f with | some d => d.1.at_.2.isNone | none => false) = true
    rw [ex]
    show x.1.at_.2.isNone = true
    rw [hl]
    rfl
  have hn : t.B.fn f = lw := by
    show (t.at_ f).1 = lw
    unfold Tabs.at_
    rw [ex]
    show x.1.at_.1 = lw
    rw [hl]
  have e := (W.fns f hi).1
  rw [hn, hfa] at e
  have e : fa = t.FA K f := by injection e with e; injection e
  subst e
  obtain ⟨fd, df⟩ := Tabs.def_of c a ex
  rw [hy] at df
  refine ⟨fd, fun s v => ?_, fun base _ _ => def_out W base hP df⟩
  obtain ⟨_, _, _, _, _, _, _, _, _, _, b, _⟩ := df
  exact b s [v] rfl
end Dv
end

section
set_option Elab.async false
set_option autoImplicit false
set_option linter.all false
set_option maxRecDepth 100000
/-! Bd: the bodies, printed by gen.py -/
namespace Bd
open Dv
/-- BadText.__init__: self at -/
def f0 : Def := ⟨2, 2, (.cons (.asg (.att (.var 0) "at") (.var 1)) .nil)⟩
/-- split_words: text word -/
def f1 : Def := ⟨1, 2, (.cons (.ret (.cmp1 (.var 1) [1] true [1] (.bm .split (.var 0) (.cons (.str " ") .nil)) (.cmp .ne (.var 1) (.str "")))) .nil)⟩
/-- is_name: word char -/
def f2 : Def := ⟨1, 2, (.cons (.ite (.or (.not (.chn .le .le (.int 1) (.bi .len (.cons (.var 0) .nil)) (.glb 3))) (.cmp .inn (.var 0) (.glb 2))) (.cons (.ret (.bl false)) .nil) .nil) (.cons (.ite (.cmp .nin (.idx (.var 0) (.int 0)) (.glb 0)) (.cons (.ret (.bl false)) .nil) .nil) (.cons (.for_ [1] true (.var 0) (.cons (.ite (.and (.cmp .nin (.var 1) (.glb 0)) (.cmp .nin (.var 1) (.glb 1))) (.cons (.ret (.bl false)) .nil) .nil) .nil)) (.cons (.ret (.bl true)) .nil))))⟩
/-- is_number: word digits char -/
def f3 : Def := ⟨1, 3, (.cons (.asg (.nm 1) (.var 0)) (.cons (.ite (.bm .startswith (.var 0) (.cons (.str "-") .nil)) (.cons (.asg (.nm 1) (.slc (.var 0) (.int 1) .nil)) .nil) .nil) (.cons (.ite (.not (.chn .le .le (.int 1) (.bi .len (.cons (.var 1) .nil)) (.glb 4))) (.cons (.ret (.bl false)) .nil) .nil) (.cons (.for_ [2] true (.var 1) (.cons (.ite (.cmp .nin (.var 2) (.glb 1)) (.cons (.ret (.bl false)) .nil) .nil) .nil)) (.cons (.ret (.or (.cmp .ne (.idx (.var 1) (.int 0)) (.str "0")) (.cmp .eq (.var 0) (.str "0")))) .nil)))))⟩
/-- word_at: words at -/
def f4 : Def := ⟨2, 2, (.cons (.ite (.cmp .lt (.var 1) (.bi .len (.cons (.var 0) .nil))) (.cons (.ret (.idx (.var 0) (.var 1))) .nil) .nil) (.cons (.ret (.str "")) .nil))⟩
/-- parse_name: words at name -/
def f5 : Def := ⟨2, 3, (.cons (.asg (.nm 2) (.cal 4 (.cons (.var 0) (.cons (.var 1) .nil)))) (.cons (.ite (.not (.cal 2 (.cons (.var 2) .nil))) (.cons (.rai 1 (.cons (.var 1) .nil)) .nil) .nil) (.cons (.ret (.tup (.cons (.var 2) (.cons (.bin .add (.var 1) (.int 1)) .nil)))) .nil)))⟩
/-- parse_fact: words at name other -/
def f6 : Def := ⟨2, 4, (.cons (.asg (.tp [2, 1]) (.cal 5 (.cons (.var 0) (.cons (.var 1) .nil)))) (.cons (.asg (.nm 3) .non) (.cons (.ite (.cmp .eq (.cal 4 (.cons (.var 0) (.cons (.var 1) .nil))) (.str "or")) (.cons (.asg (.tp [3, 1]) (.cal 9 (.cons (.var 0) (.cons (.bin .add (.var 1) (.int 1)) .nil)))) .nil) .nil) (.cons (.ret (.tup (.cons (.tup (.cons (.str "fact") (.cons (.var 2) (.cons (.var 3) .nil)))) (.cons (.var 1) .nil)))) .nil))))⟩
/-- parse_percent: words at word amount after -/
def f7 : Def := ⟨2, 5, (.cons (.asg (.nm 2) (.cal 4 (.cons (.var 0) (.cons (.var 1) .nil)))) (.cons (.ite (.or (.not (.cal 3 (.cons (.var 2) .nil))) (.not (.chn .le .le (.int 0) (.bi .int (.cons (.var 2) .nil)) (.glb 9)))) (.cons (.rai 1 (.cons (.var 1) .nil)) .nil) .nil) (.cons (.asg (.tp [3, 4]) (.cal 9 (.cons (.var 0) (.cons (.bin .add (.var 1) (.int 1)) .nil)))) (.cons (.ret (.tup (.cons (.tup (.cons (.str "percent") (.cons (.bi .int (.cons (.var 2) .nil)) (.cons (.var 3) .nil)))) (.cons (.var 4) .nil)))) .nil))))⟩
/-- parse_if: words at condition first second -/
def f8 : Def := ⟨2, 5, (.cons (.asg (.tp [2, 1]) (.cal 10 (.cons (.var 0) (.cons (.var 1) .nil)))) (.cons (.asg (.tp [3, 1]) (.cal 9 (.cons (.var 0) (.cons (.var 1) .nil)))) (.cons (.asg (.tp [4, 1]) (.cal 9 (.cons (.var 0) (.cons (.var 1) .nil)))) (.cons (.ret (.tup (.cons (.tup (.cons (.str "if") (.cons (.var 2) (.cons (.var 3) (.cons (.var 4) .nil))))) (.cons (.var 1) .nil)))) .nil))))⟩
/-- parse_part: words at word name after first second -/
def f9 : Def := ⟨2, 7, (.cons (.asg (.nm 2) (.cal 4 (.cons (.var 0) (.cons (.var 1) .nil)))) (.cons (.ite (.cal 3 (.cons (.var 2) .nil)) (.cons (.ret (.tup (.cons (.tup (.cons (.str "number") (.cons (.bi .int (.cons (.var 2) .nil)) .nil))) (.cons (.bin .add (.var 1) (.int 1)) .nil)))) .nil) .nil) (.cons (.ite (.cmp .eq (.var 2) (.str "fact")) (.cons (.ret (.cal 6 (.cons (.var 0) (.cons (.bin .add (.var 1) (.int 1)) .nil)))) .nil) .nil) (.cons (.ite (.cmp .eq (.var 2) (.str "due")) (.cons (.asg (.tp [3, 4]) (.cal 5 (.cons (.var 0) (.cons (.bin .add (.var 1) (.int 1)) .nil)))) (.cons (.ret (.tup (.cons (.tup (.cons (.str "due") (.cons (.var 3) .nil))) (.cons (.var 4) .nil)))) .nil)) .nil) (.cons (.ite (.cmp .eq (.var 2) (.str "percent")) (.cons (.ret (.cal 7 (.cons (.var 0) (.cons (.bin .add (.var 1) (.int 1)) .nil)))) .nil) .nil) (.cons (.ite (.cmp .eq (.var 2) (.str "if")) (.cons (.ret (.cal 8 (.cons (.var 0) (.cons (.bin .add (.var 1) (.int 1)) .nil)))) .nil) .nil) (.cons (.ite (.cmp .nin (.var 2) (.glb 5)) (.cons (.rai 1 (.cons (.var 1) .nil)) .nil) .nil) (.cons (.asg (.tp [5, 4]) (.cal 9 (.cons (.var 0) (.cons (.bin .add (.var 1) (.int 1)) .nil)))) (.cons (.asg (.tp [6, 4]) (.cal 9 (.cons (.var 0) (.cons (.var 4) .nil)))) (.cons (.ret (.tup (.cons (.tup (.cons (.var 2) (.cons (.var 5) (.cons (.var 6) .nil)))) (.cons (.var 4) .nil)))) .nil))))))))))⟩
/-- parse_condition: words at word name after condition first second -/
def f10 : Def := ⟨2, 8, (.cons (.asg (.nm 2) (.cal 4 (.cons (.var 0) (.cons (.var 1) .nil)))) (.cons (.ite (.cmp .eq (.var 2) (.str "known")) (.cons (.asg (.tp [3, 4]) (.cal 5 (.cons (.var 0) (.cons (.bin .add (.var 1) (.int 1)) .nil)))) (.cons (.ret (.tup (.cons (.tup (.cons (.str "known") (.cons (.var 3) .nil))) (.cons (.var 4) .nil)))) .nil)) .nil) (.cons (.ite (.cmp .eq (.var 2) (.str "not")) (.cons (.asg (.tp [5, 4]) (.cal 10 (.cons (.var 0) (.cons (.bin .add (.var 1) (.int 1)) .nil)))) (.cons (.ret (.tup (.cons (.tup (.cons (.str "not") (.cons (.var 5) .nil))) (.cons (.var 4) .nil)))) .nil)) .nil) (.cons (.ite (.cmp .inn (.var 2) (.glb 6)) (.cons (.asg (.tp [6, 4]) (.cal 9 (.cons (.var 0) (.cons (.bin .add (.var 1) (.int 1)) .nil)))) (.cons (.asg (.tp [7, 4]) (.cal 9 (.cons (.var 0) (.cons (.var 4) .nil)))) (.cons (.ret (.tup (.cons (.tup (.cons (.var 2) (.cons (.var 6) (.cons (.var 7) .nil)))) (.cons (.var 4) .nil)))) .nil))) .nil) (.cons (.ite (.cmp .nin (.var 2) (.glb 7)) (.cons (.rai 1 (.cons (.var 1) .nil)) .nil) .nil) (.cons (.asg (.tp [6, 4]) (.cal 10 (.cons (.var 0) (.cons (.bin .add (.var 1) (.int 1)) .nil)))) (.cons (.asg (.tp [7, 4]) (.cal 10 (.cons (.var 0) (.cons (.var 4) .nil)))) (.cons (.ret (.tup (.cons (.tup (.cons (.var 2) (.cons (.var 6) (.cons (.var 7) .nil)))) (.cons (.var 4) .nil)))) .nil))))))))⟩
/-- parse_amount: text words amount at -/
def f11 : Def := ⟨1, 4, (.cons (.asg (.nm 1) (.cal 1 (.cons (.var 0) .nil))) (.cons (.ite (.cmp .gt (.bi .len (.cons (.var 1) .nil)) (.glb 8)) (.cons (.rai 2 (.cons (.str "words") .nil)) .nil) .nil) (.cons (.asg (.tp [2, 3]) (.cal 9 (.cons (.var 1) (.cons (.int 0) .nil)))) (.cons (.ite (.cmp .lt (.var 3) (.bi .len (.cons (.var 1) .nil))) (.cons (.rai 1 (.cons (.var 3) .nil)) .nil) .nil) (.cons (.ret (.var 2)) .nil)))))⟩
/-- amount_words: part kind words one -/
def f12 : Def := ⟨1, 4, (.cons (.asg (.nm 1) (.idx (.var 0) (.int 0))) (.cons (.ite (.cmp .eq (.var 1) (.str "number")) (.cons (.ret (.lst (.cons (.bi .str (.cons (.idx (.var 0) (.int 1)) .nil)) .nil))) .nil) .nil) (.cons (.ite (.cmp .eq (.var 1) (.str "fact")) (.cons (.ite (.cmp .iss (.idx (.var 0) (.int 2)) .non) (.cons (.ret (.lst (.cons (.str "fact") (.cons (.idx (.var 0) (.int 1)) .nil)))) .nil) .nil) (.cons (.ret (.bin .add (.lst (.cons (.str "fact") (.cons (.idx (.var 0) (.int 1)) (.cons (.str "or") .nil)))) (.cal 12 (.cons (.idx (.var 0) (.int 2)) .nil)))) .nil)) .nil) (.cons (.ite (.or (.cmp .eq (.var 1) (.str "due")) (.cmp .eq (.var 1) (.str "known"))) (.cons (.ret (.lst (.cons (.var 1) (.cons (.idx (.var 0) (.int 1)) .nil)))) .nil) .nil) (.cons (.ite (.cmp .eq (.var 1) (.str "percent")) (.cons (.ret (.bin .add (.lst (.cons (.str "percent") (.cons (.bi .str (.cons (.idx (.var 0) (.int 1)) .nil)) .nil))) (.cal 12 (.cons (.idx (.var 0) (.int 2)) .nil)))) .nil) .nil) (.cons (.asg (.nm 2) (.lst (.cons (.var 1) .nil))) (.cons (.for_ [3] true (.slc (.var 0) (.int 1) .nil) (.cons (.ex (.bm .extend (.var 2) (.cons (.cal 12 (.cons (.var 3) .nil)) .nil))) .nil)) (.cons (.ret (.var 2)) .nil))))))))⟩
/-- format_amount: amount -/
def f13 : Def := ⟨1, 1, (.cons (.ret (.bm .join (.str " ") (.cons (.cal 12 (.cons (.var 0) .nil)) .nil))) .nil)⟩
/-- _law_is_integer: _law_x -/
def f14 : Def := ⟨1, 1, (.cons (.ret (.and (.isi (.var 0) .int) (.not (.isi (.var 0) .bool)))) .nil)⟩
/-- _law_row: _law_script _law_place _law_many _law_cell _law_rest _law_row_here _law_k _law_mixed -/
def f15 : Def := ⟨3, 8, (.cons (.asg (.nm 3) (.bin .add (.bin .mul (.int 7919) (.var 1)) (.int 5))) (.cons (.ite (.cmp .lt (.var 1) (.bi .len (.cons (.var 0) .nil))) (.cons (.asg (.nm 3) (.idx (.var 0) (.var 1))) .nil) .nil) (.cons (.asg (.nm 4) (.bin .sub (.var 3) (.bin .pow (.int 10) (.int 18)))) (.cons (.asg (.nm 5) (.lst .nil)) (.cons (.for_ [6] true (.rng (.cons (.var 2) .nil)) (.cons (.ite (.cmp .gt (.var 4) (.int 0)) (.cons (.ex (.bm .append (.var 5) (.cons (.bin .mod (.bi .int (.cons (.var 4) .nil)) (.int 1000)) .nil))) (.cons (.asg (.nm 4) (.bin .fdiv (.var 4) (.int 1000))) .nil)) (.cons (.asg (.nm 7) (.bin .mod (.bi .int (.cons (.bin .add (.bin .add (.bin .mul (.var 3) (.int 48271)) (.bin .mul (.var 6) (.int 69621))) (.int 12345)) .nil)) (.int 2147483647))) (.cons (.asg (.nm 7) (.bin .mod (.bi .int (.cons (.bin .add (.bin .add (.bin .mul (.var 7) (.var 7)) (.bin .mul (.var 7) (.int 16807))) (.bin .mul (.var 6) (.int 40692))) .nil)) (.int 2147483399))) (.cons (.ex (.bm .append (.var 5) (.cons (.bin .mod (.bin .fdiv (.var 7) (.int 64)) (.int 1000)) .nil))) .nil)))) .nil)) (.cons (.ret (.var 5)) .nil))))))⟩
/-- _law_kept:  -/
def f16 : Def := ⟨0, 0, (.cons (.ret (.lst (.cons (.str "fact") (.cons (.str "known") (.cons (.str "due") (.cons (.str "or") (.cons (.str "plus") (.cons (.str "minus") (.cons (.str "times") (.cons (.str "least") (.cons (.str "most") (.cons (.str "percent") (.cons (.str "if") (.cons (.str "below") (.cons (.str "same") (.cons (.str "not") (.cons (.str "both") (.cons (.str "either") .nil)))))))))))))))))) .nil)⟩
/-- _law_name: _law_row_here _law_k _law_letters _law_text _law_size _law_alike _law_i _law_at -/
def f17 : Def := ⟨2, 8, (.cons (.asg (.nm 2) (.str "abcdefghijklmnopqrstuvwxyz")) (.cons (.asg (.nm 3) (.str "")) (.cons (.asg (.nm 4) (.bin .mod (.bi .int (.cons (.idx (.var 0) (.int 0)) .nil)) (.int 12))) (.cons (.asg (.nm 5) (.cmp .eq (.bin .mod (.bi .int (.cons (.bin .fdiv (.idx (.var 0) (.int 0)) (.int 12)) .nil)) (.int 2)) (.int 0))) (.cons (.ite (.not (.var 5)) (.cons (.asg (.nm 4) (.bi .max (.cons (.int 0) (.cons (.bin .sub (.var 4) (.var 1)) .nil)))) .nil) .nil) (.cons (.for_ [6] true (.rng (.cons (.var 4) .nil)) (.cons (.ite (.cmp .eq (.var 6) (.int 0)) (.cons (.asg (.nm 3) (.idx (.var 2) (.bin .mod (.bi .int (.cons (.idx (.var 0) (.int 3)) .nil)) (.int 26)))) .nil) (.cons (.asg (.nm 3) (.bin .add (.var 3) (.idx (.bin .add (.var 2) (.str "0123456789")) (.bin .mod (.bi .int (.cons (.idx (.var 0) (.bin .add (.int 3) (.var 6))) .nil)) (.int 36))))) .nil)) .nil)) (.cons (.asg (.nm 7) (.bin .mod (.bi .int (.cons (.idx (.var 0) (.int 1)) .nil)) (.bin .add (.var 4) (.int 1)))) (.cons (.ite (.not (.var 5)) (.cons (.asg (.nm 7) (.int 0)) .nil) .nil) (.cons (.asg (.nm 3) (.bin .add (.bin .add (.slc (.var 3) .nil (.var 7)) (.idx (.var 2) (.bin .mod (.bi .int (.cons (.bin .add (.idx (.var 0) (.int 2)) (.var 1)) .nil)) (.int 26)))) (.slc (.var 3) (.var 7) .nil))) (.cons (.ite (.cmp .inn (.var 3) (.cal 16 .nil)) (.cons (.asg (.nm 3) (.bin .add (.var 3) (.str "x"))) .nil) .nil) (.cons (.ret (.var 3)) .nil)))))))))))⟩
/-- _law_names: _law_script _law_place _law_many _law_row_here _law_k -/
def f18 : Def := ⟨3, 5, (.cons (.asg (.nm 3) (.cal 15 (.cons (.var 0) (.cons (.var 1) (.cons (.int 15) .nil))))) (.cons (.ret (.cmp1 (.cal 17 (.cons (.var 3) (.cons (.var 4) .nil))) [4] true [4] (.rng (.cons (.var 2) .nil)) .nil)) .nil))⟩
/-- _law_next: _law_draws _law_many -/
def f19 : Def := ⟨2, 2, (.cons (.ite (.cmp .eq (.var 0) (.lst .nil)) (.cons (.ret (.int 0)) .nil) .nil) (.cons (.ret (.bin .mod (.bi .int (.cons (.bm .pop (.var 0) .nil) .nil)) (.var 1))) .nil))⟩
/-- _law_number: _law_draws -/
def f20 : Def := ⟨1, 1, (.cons (.ite (.cmp .eq (.cal 19 (.cons (.var 0) (.cons (.int 9) .nil))) (.int 0)) (.cons (.ret (.bin .mul (.bin .add (.bin .add (.bin .mul (.cal 19 (.cons (.var 0) (.cons (.int 1000) .nil))) (.int 1000000)) (.bin .mul (.cal 19 (.cons (.var 0) (.cons (.int 1000) .nil))) (.int 1000))) (.int 7)) (.bin .sub (.int 1) (.bin .mul (.int 2) (.cal 19 (.cons (.var 0) (.cons (.int 2) .nil))))))) .nil) .nil) (.cons (.ret (.bin .sub (.cal 19 (.cons (.var 0) (.cons (.int 60) .nil))) (.int 20))) .nil))⟩
/-- _law_amount: _law_draws _law_depth _law_facts _law_rules _law_kind _law_name_here _law_part _law_condition_here _law_first _law_second -/
def f21 : Def := ⟨4, 10, (.cons (.asg (.nm 4) (.cal 19 (.cons (.var 0) (.cons (.int 14) .nil)))) (.cons (.ite (.cmp .eq (.var 1) (.int 0)) (.cons (.asg (.nm 4) (.cal 19 (.cons (.var 0) (.cons (.int 4) .nil)))) .nil) .nil) (.cons (.ite (.cmp .eq (.var 4) (.int 0)) (.cons (.ret (.tup (.cons (.str "number") (.cons (.cal 20 (.cons (.var 0) .nil)) .nil)))) .nil) .nil) (.cons (.ite (.cmp .lt (.var 4) (.int 3)) (.cons (.ret (.tup (.cons (.str "fact") (.cons (.idx (.var 2) (.cal 19 (.cons (.var 0) (.cons (.bi .len (.cons (.var 2) .nil)) .nil)))) (.cons .non .nil))))) .nil) .nil) (.cons (.ite (.cmp .eq (.var 4) (.int 3)) (.cons (.ret (.tup (.cons (.str "due") (.cons (.idx (.var 3) (.cal 19 (.cons (.var 0) (.cons (.bi .len (.cons (.var 3) .nil)) .nil)))) .nil)))) .nil) .nil) (.cons (.ite (.cmp .eq (.var 4) (.int 4)) (.cons (.asg (.nm 5) (.idx (.var 2) (.cal 19 (.cons (.var 0) (.cons (.bi .len (.cons (.var 2) .nil)) .nil))))) (.cons (.ret (.tup (.cons (.str "fact") (.cons (.var 5) (.cons (.cal 21 (.cons (.var 0) (.cons (.bin .sub (.var 1) (.int 1)) (.cons (.var 2) (.cons (.var 3) .nil))))) .nil))))) .nil)) .nil) (.cons (.ite (.cmp .eq (.var 4) (.int 5)) (.cons (.asg (.nm 6) (.idx (.lst (.cons (.int 0) (.cons (.int 50) (.cons (.int 100) (.cons (.int 33) (.cons (.int 1000) (.cons (.int 7) .nil))))))) (.cal 19 (.cons (.var 0) (.cons (.int 6) .nil))))) (.cons (.ret (.tup (.cons (.str "percent") (.cons (.var 6) (.cons (.cal 21 (.cons (.var 0) (.cons (.bin .sub (.var 1) (.int 1)) (.cons (.var 2) (.cons (.var 3) .nil))))) .nil))))) .nil)) .nil) (.cons (.ite (.cmp .lt (.var 4) (.int 9)) (.cons (.asg (.nm 7) (.cal 22 (.cons (.var 0) (.cons (.bin .sub (.var 1) (.int 1)) (.cons (.var 2) (.cons (.var 3) .nil)))))) (.cons (.asg (.nm 8) (.cal 21 (.cons (.var 0) (.cons (.bin .sub (.var 1) (.int 1)) (.cons (.var 2) (.cons (.var 3) .nil)))))) (.cons (.ret (.tup (.cons (.str "if") (.cons (.var 7) (.cons (.var 8) (.cons (.cal 21 (.cons (.var 0) (.cons (.bin .sub (.var 1) (.int 1)) (.cons (.var 2) (.cons (.var 3) .nil))))) .nil)))))) .nil))) .nil) (.cons (.asg (.nm 8) (.cal 21 (.cons (.var 0) (.cons (.bin .sub (.var 1) (.int 1)) (.cons (.var 2) (.cons (.var 3) .nil)))))) (.cons (.asg (.nm 9) (.cal 21 (.cons (.var 0) (.cons (.bin .sub (.var 1) (.int 1)) (.cons (.var 2) (.cons (.var 3) .nil)))))) (.cons (.ret (.tup (.cons (.idx (.lst (.cons (.str "plus") (.cons (.str "minus") (.cons (.str "times") (.cons (.str "least") (.cons (.str "most") .nil)))))) (.bin .sub (.var 4) (.int 9))) (.cons (.var 8) (.cons (.var 9) .nil))))) .nil)))))))))))⟩
/-- _law_condition: _law_draws _law_depth _law_facts _law_rules _law_kind _law_first -/
def f22 : Def := ⟨4, 6, (.cons (.asg (.nm 4) (.cal 19 (.cons (.var 0) (.cons (.int 7) .nil)))) (.cons (.ite (.or (.cmp .eq (.var 4) (.int 0)) (.cmp .le (.var 1) (.int 0))) (.cons (.ret (.tup (.cons (.str "known") (.cons (.idx (.var 2) (.cal 19 (.cons (.var 0) (.cons (.bi .len (.cons (.var 2) .nil)) .nil)))) .nil)))) .nil) .nil) (.cons (.ite (.cmp .eq (.var 4) (.int 1)) (.cons (.ret (.tup (.cons (.str "not") (.cons (.cal 22 (.cons (.var 0) (.cons (.bin .sub (.var 1) (.int 1)) (.cons (.var 2) (.cons (.var 3) .nil))))) .nil)))) .nil) .nil) (.cons (.ite (.cmp .lt (.var 4) (.int 4)) (.cons (.asg (.nm 5) (.cal 22 (.cons (.var 0) (.cons (.bin .sub (.var 1) (.int 1)) (.cons (.var 2) (.cons (.var 3) .nil)))))) (.cons (.ret (.tup (.cons (.idx (.lst (.cons (.str "both") (.cons (.str "either") .nil))) (.bin .sub (.var 4) (.int 2))) (.cons (.var 5) (.cons (.cal 22 (.cons (.var 0) (.cons (.bin .sub (.var 1) (.int 1)) (.cons (.var 2) (.cons (.var 3) .nil))))) .nil))))) .nil)) .nil) (.cons (.asg (.nm 5) (.cal 21 (.cons (.var 0) (.cons (.bin .sub (.var 1) (.int 1)) (.cons (.var 2) (.cons (.var 3) .nil)))))) (.cons (.ret (.tup (.cons (.idx (.lst (.cons (.str "below") (.cons (.str "same") .nil))) (.bin .fdiv (.var 4) (.int 6))) (.cons (.var 5) (.cons (.cal 21 (.cons (.var 0) (.cons (.bin .sub (.var 1) (.int 1)) (.cons (.var 2) (.cons (.var 3) .nil))))) .nil))))) .nil))))))⟩
/-- _law_words: _law_part _law_kind _law_words_here _law_one -/
def f23 : Def := ⟨1, 4, (.cons (.asg (.nm 1) (.idx (.var 0) (.int 0))) (.cons (.ite (.cmp .eq (.var 1) (.str "number")) (.cons (.ret (.lst (.cons (.bi .str (.cons (.idx (.var 0) (.int 1)) .nil)) .nil))) .nil) .nil) (.cons (.ite (.and (.cmp .eq (.var 1) (.str "fact")) (.cmp .iss (.idx (.var 0) (.int 2)) .non)) (.cons (.ret (.lst (.cons (.str "fact") (.cons (.idx (.var 0) (.int 1)) .nil)))) .nil) .nil) (.cons (.ite (.cmp .eq (.var 1) (.str "fact")) (.cons (.ret (.bin .add (.lst (.cons (.str "fact") (.cons (.idx (.var 0) (.int 1)) (.cons (.str "or") .nil)))) (.cal 23 (.cons (.idx (.var 0) (.int 2)) .nil)))) .nil) .nil) (.cons (.ite (.or (.cmp .eq (.var 1) (.str "due")) (.cmp .eq (.var 1) (.str "known"))) (.cons (.ret (.lst (.cons (.var 1) (.cons (.idx (.var 0) (.int 1)) .nil)))) .nil) .nil) (.cons (.ite (.cmp .eq (.var 1) (.str "percent")) (.cons (.ret (.bin .add (.lst (.cons (.str "percent") (.cons (.bi .str (.cons (.idx (.var 0) (.int 1)) .nil)) .nil))) (.cal 23 (.cons (.idx (.var 0) (.int 2)) .nil)))) .nil) .nil) (.cons (.asg (.nm 2) (.lst (.cons (.var 1) .nil))) (.cons (.for_ [3] true (.slc (.var 0) (.int 1) .nil) (.cons (.asg (.nm 2) (.bin .add (.var 2) (.cal 23 (.cons (.var 3) .nil)))) .nil)) (.cons (.ret (.var 2)) .nil)))))))))⟩
/-- _law_rule_amount: _law_draws _law_facts _law_rules _law_part -/
def f24 : Def := ⟨3, 4, (.cons (.asg (.nm 3) (.cal 21 (.cons (.var 0) (.cons (.bin .add (.int 1) (.cal 19 (.cons (.var 0) (.cons (.int 3) .nil)))) (.cons (.var 1) (.cons (.var 2) .nil)))))) (.cons (.ite (.cmp .gt (.bi .len (.cons (.cal 23 (.cons (.var 3) .nil)) .nil)) (.int 40)) (.cons (.ret (.tup (.cons (.str "plus") (.cons (.tup (.cons (.str "due") (.cons (.idx (.var 2) (.neg (.int 1))) .nil))) (.cons (.tup (.cons (.str "fact") (.cons (.idx (.var 1) (.int 0)) (.cons (.tup (.cons (.str "number") (.cons (.int 3) .nil))) .nil)))) .nil))))) .nil) .nil) (.cons (.ret (.var 3)) .nil)))⟩
/-- _law_spaced: _law_words_here _law_row_here _law_text _law_k -/
def f25 : Def := ⟨2, 4, (.cons (.asg (.nm 2) (.bin .mul (.str " ") (.bin .mod (.bi .int (.cons (.idx (.var 1) (.int 0)) .nil)) (.int 3)))) (.cons (.for_ [3] true (.rng (.cons (.bi .len (.cons (.var 0) .nil)) .nil)) (.cons (.ite (.cmp .gt (.var 3) (.int 0)) (.cons (.asg (.nm 2) (.bin .add (.var 2) (.bin .mul (.str " ") (.bin .add (.int 1) (.bin .mod (.bi .int (.cons (.bin .fdiv (.idx (.var 1) (.bin .add (.int 1) (.bin .mod (.var 3) (.int 5)))) (.bin .add (.int 1) (.var 3))) .nil)) (.int 3)))))) .nil) .nil) (.cons (.asg (.nm 2) (.bin .add (.var 2) (.idx (.var 0) (.var 3)))) .nil))) (.cons (.ret (.bin .add (.var 2) (.bin .mul (.str " ") (.bin .mod (.bi .int (.cons (.idx (.var 1) (.int 6)) .nil)) (.int 3))))) .nil)))⟩
/-- _law_same: _law_actual _law_due _law_k -/
def f26 : Def := ⟨2, 3, (.cons (.ite (.cmp .iss (.var 1) .non) (.cons (.ret (.cmp .iss (.var 0) .non)) .nil) .nil) (.cons (.ite (.or (.isi (.var 1) .list) (.isi (.var 1) .tuple)) (.cons (.ite (.or (.cmp .ne (.isi (.var 0) .list) (.isi (.var 1) .list)) (.cmp .ne (.isi (.var 0) .tuple) (.isi (.var 1) .tuple))) (.cons (.ret (.bl false)) .nil) .nil) (.cons (.ite (.cmp .ne (.bi .len (.cons (.var 0) .nil)) (.bi .len (.cons (.var 1) .nil))) (.cons (.ret (.bl false)) .nil) .nil) (.cons (.for_ [2] true (.rng (.cons (.bi .len (.cons (.var 1) .nil)) .nil)) (.cons (.ite (.not (.cal 26 (.cons (.idx (.var 0) (.var 2)) (.cons (.idx (.var 1) (.var 2)) .nil)))) (.cons (.ret (.bl false)) .nil) .nil) .nil)) (.cons (.ret (.bl true)) .nil)))) .nil) (.cons (.ite (.isi (.var 1) .bool) (.cons (.ret (.and (.isi (.var 0) .bool) (.cmp .eq (.var 0) (.var 1)))) .nil) .nil) (.cons (.ite (.isi (.var 1) .int) (.cons (.ret (.and (.cal 14 (.cons (.var 0) .nil)) (.cmp .eq (.var 0) (.var 1)))) .nil) .nil) (.cons (.ret (.and (.isi (.var 0) .str) (.cmp .eq (.var 0) (.var 1)))) .nil)))))⟩
/-- law: _law_script _law_facts _law_rules _law_place _law_draws _law_spaces _law_part _law_words_here _law_text _law_given -/
def f27 : Def := ⟨1, 10, (.cons (.asg (.nm 1) (.cal 18 (.cons (.var 0) (.cons (.int 0) (.cons (.int 3) .nil))))) (.cons (.asg (.nm 2) (.cal 18 (.cons (.var 0) (.cons (.int 1) (.cons (.int 3) .nil))))) (.cons (.for_ [3] true (.rng (.cons (.int 2) (.cons (.int 8) .nil))) (.cons (.asg (.nm 4) (.cal 15 (.cons (.var 0) (.cons (.var 3) (.cons (.int 90) .nil))))) (.cons (.asg (.nm 5) (.cal 15 (.cons (.var 0) (.cons (.bin .add (.var 3) (.int 10)) (.cons (.int 8) .nil))))) (.cons (.asg (.nm 6) (.cal 24 (.cons (.var 4) (.cons (.var 1) (.cons (.var 2) .nil))))) (.cons (.asg (.nm 7) (.cal 23 (.cons (.var 6) .nil))) (.cons (.asg (.nm 8) (.cal 13 (.cons (.var 6) .nil))) (.cons (.ite (.or (.not (.isi (.var 8) .str)) (.cmp .ne (.var 8) (.bm .join (.str " ") (.cons (.var 7) .nil)))) (.cons (.ret (.bl false)) .nil) .nil) (.cons (.for_ [9] true (.tup (.cons (.var 8) (.cons (.cal 25 (.cons (.var 7) (.cons (.var 5) .nil))) .nil))) (.cons (.ite (.not (.cal 26 (.cons (.cal 11 (.cons (.var 9) .nil)) (.cons (.var 6) .nil)))) (.cons (.ret (.bl false)) .nil) .nil) .nil)) .nil)))))))) (.cons (.ret (.bl true)) .nil))))⟩
end Bd
end

section
set_option Elab.async false
set_option autoImplicit false
set_option linter.all false
set_option maxRecDepth 100000
/-! DvT: what helps to compute with the evaluator. -/
namespace Dv
open PySem
section
variable {G : Gl} {cl : Cl} {cu : Option (Nat × List (Str × D))} {e : Env} {M : Store}
/-! expressions -/
theorem ev_nil_a : (ev G cl cu .nil).a e M = .ok [] M := Eq.trans rfl rfl
theorem ev_nil_p : (ev G cl cu .nil).p e M = .ok none M := Eq.trans rfl rfl
theorem ev_nil_c : (ev G cl cu .nil).c e M = .ok true M := Eq.trans rfl rfl
theorem ev_cons_a (x y : E) : (ev G cl cu (.cons x y)).a e M = ((ev G cl cu x).e e M).bind fun d M1 => ((ev G cl cu y).a e M1).bind fun ds M2 => .ok (d :: ds) M2 := Eq.trans rfl rfl
theorem ev_rng_i (x : E) : (ev G cl cu (.rng x)).i e M = ((ev G cl cu x).a e M).bind fun vs M1 => rngOf M1 vs := Eq.trans rfl rfl
theorem ev_var (i : Nat) : (ev G cl cu (.var i)).e e M = varE i e M := Eq.trans rfl rfl
theorem ev_non : (ev G cl cu .non).e e M = .ok .non M := Eq.trans rfl rfl
theorem ev_bl (b : Bool) : (ev G cl cu (.bl b)).e e M = .ok (.bl b) M := Eq.trans rfl rfl
theorem ev_int (i : Int) : (ev G cl cu (.int i)).e e M = .ok (.int i) M := Eq.trans rfl rfl
theorem ev_str (s : Str) : (ev G cl cu (.str s)).e e M = .ok (.str s) M := Eq.trans rfl rfl
theorem ev_glb (k : Nat) : (ev G cl cu (.glb k)).e e M = ofO (G.con k) M := Eq.trans rfl rfl
theorem ev_bin (o : Op) (a b : E) : (ev G cl cu (.bin o a b)).e e M = ((ev G cl cu a).e e M).bind fun x M1 => ((ev G cl cu b).e e M1).bind fun y M2 => binE o M2 x y := Eq.trans rfl rfl
theorem ev_neg (a : E) : (ev G cl cu (.neg a)).e e M = ((ev G cl cu a).e e M).bind fun x M1 => negE M1 x := Eq.trans rfl rfl
theorem ev_cmp (o : Co) (a b : E) : (ev G cl cu (.cmp o a b)).e e M = ((ev G cl cu a).e e M).bind fun x M1 => ((ev G cl cu b).e e M1).bind fun y M2 => (ofO (cmpE o M2 x y) M2).bind fun c M3 => .ok (.bl c) M3 := Eq.trans rfl rfl
theorem ev_chn (o p : Co) (a b c : E) : (ev G cl cu (.chn o p a b c)).e e M = ((ev G cl cu a).e e M).bind fun x M1 => ((ev G cl cu b).e e M1).bind fun y M2 => (ofO (cmpE o M2 x y) M2).bind fun k M3 =>
      if k = true then ((ev G cl cu c).e e M3).bind fun z M4 => (ofO (cmpE p M4 y z) M4).bind fun c M5 => .ok (.bl c) M5 else .ok (.bl false) M3 := Eq.trans rfl rfl
theorem ev_and (a b : E) : (ev G cl cu (.and a b)).e e M = ((ev G cl cu a).e e M).bind fun x M1 => andE x ((ev G cl cu b).e e) M1 := Eq.trans rfl rfl
theorem ev_or (a b : E) : (ev G cl cu (.or a b)).e e M = ((ev G cl cu a).e e M).bind fun x M1 => orE x ((ev G cl cu b).e e) M1 := Eq.trans rfl rfl
theorem ev_not (a : E) : (ev G cl cu (.not a)).e e M = ((ev G cl cu a).e e M).bind fun x M1 => (ofO (truD M1 x) M1).bind fun b M2 => .ok (.bl (!b)) M2 := Eq.trans rfl rfl
theorem ev_ife (c a b : E) : (ev G cl cu (.ife c a b)).e e M = ((ev G cl cu c).t e M).bind fun t M1 => if t = true then (ev G cl cu a).e e M1 else (ev G cl cu b).e e M1 := Eq.trans rfl rfl
theorem ev_tup (es : E) : (ev G cl cu (.tup es)).e e M = ((ev G cl cu es).a e M).bind fun vs M1 => if vs.length ≤ sizeLine then .ok (.tup vs) M1 else .bad := Eq.trans rfl rfl
theorem ev_lst (es : E) : (ev G cl cu (.lst es)).e e M = ((ev G cl cu es).a e M).bind fun vs M1 => lstG M1 vs := Eq.trans rfl rfl
theorem ev_dnl (tk : Bool) : (ev G cl cu (.dnl tk)).e e M = if tk = true then mk M (.dtt []) else mk M (.dct []) := Eq.trans rfl rfl
theorem ev_idx (a i : E) : (ev G cl cu (.idx a i)).e e M = ((ev G cl cu a).e e M).bind fun x M1 => ((ev G cl cu i).e e M1).bind fun y M2 => ofO (idxE M2 x y) M2 := Eq.trans rfl rfl
theorem ev_slc (a lo hi : E) : (ev G cl cu (.slc a lo hi)).e e M = ((ev G cl cu a).e e M).bind fun x M1 => ((ev G cl cu lo).p e M1).bind fun l M2 => ((ev G cl cu hi).p e M2).bind fun h M3 => slcE M3 x l h := Eq.trans rfl rfl
theorem ev_fld (a : E) (f : Str) : (ev G cl cu (.fld a f)).e e M = ((ev G cl cu a).e e M).bind fun x M1 => fldE G M1 x f := Eq.trans rfl rfl
theorem ev_cal (f : Nat) (es : E) : (ev G cl cu (.cal f es)).e e M = ((ev G cl cu es).a e M).bind fun vs M1 => cl f vs M1 := Eq.trans rfl rfl
theorem ev_mak (c : Nat) (es : E) : (ev G cl cu (.mak c es)).e e M = ((ev G cl cu es).a e M).bind fun vs M1 => makE G cl c vs M1 := Eq.trans rfl rfl
theorem ev_mth (o : E) (m : Nat) (es : E) : (ev G cl cu (.mth o m es)).e e M = ((ev G cl cu o).e e M).bind fun x M1 => match mthE G M1 x m with
      | some g => ((ev G cl cu es).a e M1).bind fun vs M2 => cl g (x :: vs) M2
      | none => .bad := Eq.trans rfl rfl
theorem ev_bi (b : Bi) (es : E) : (ev G cl cu (.bi b es)).e e M = ((ev G cl cu es).a e M).bind fun vs M1 => biE b M1 vs := Eq.trans rfl rfl
theorem ev_bm (m : Bm) (o es : E) : (ev G cl cu (.bm m o es)).e e M = ((ev G cl cu o).e e M).bind fun x M1 => if bmTy m M1 x = true then ((ev G cl cu es).a e M1).bind fun vs M2 => bmE m M2 x vs else .bad := Eq.trans rfl rfl
theorem ev_isi (a : E) (t : Ty) : (ev G cl cu (.isi a t)).e e M = ((ev G cl cu a).e e M).bind fun x M1 => (ofO (isiE M1 x t) M1).bind fun c M2 => .ok (.bl c) M2 := Eq.trans rfl rfl
theorem ev_isx (c : Nat) : (ev G cl cu (.isx c)).e e M = isxE G cu c M := Eq.trans rfl rfl
theorem ev_xfd (f : Str) : (ev G cl cu (.xfd f)).e e M = xfdE G cu f M := Eq.trans rfl rfl
theorem ev_cmp1 (elt : E) (tg : List Nat) (sole : Bool) (own : List Nat) (it cond : E) : (ev G cl cu (.cmp1 elt tg sole own it cond)).e e M = ((ev G cl cu it).i e M).bind fun s M1 =>
      (compL s tg sole (wipeD e own) (fun e' M' => (ev G cl cu cond).c e' M') (fun e' M' => (ev G cl cu elt).e e' M') s.items [] M1).bind fun xs M2 => lstG M2 xs := Eq.trans rfl rfl
/-! tests -/
theorem ev_and_t (a b : E) : (ev G cl cu (.and a b)).t e M = ((ev G cl cu a).t e M).bind fun x M1 => if x = true then (ev G cl cu b).t e M1 else .ok false M1 := Eq.trans rfl rfl
theorem ev_or_t (a b : E) : (ev G cl cu (.or a b)).t e M = ((ev G cl cu a).t e M).bind fun x M1 => if x = true then .ok true M1 else (ev G cl cu b).t e M1 := Eq.trans rfl rfl
theorem ev_not_t (a : E) : (ev G cl cu (.not a)).t e M = ((ev G cl cu a).t e M).bind fun x M1 => .ok (!x) M1 := Eq.trans rfl rfl
theorem ev_and_c (a b : E) : (ev G cl cu (.and a b)).c e M = (ev G cl cu (.and a b)).t e M := Eq.trans rfl rfl
theorem ev_or_c (a b : E) : (ev G cl cu (.or a b)).c e M = (ev G cl cu (.or a b)).t e M := Eq.trans rfl rfl
theorem ev_not_c (a : E) : (ev G cl cu (.not a)).c e M = (ev G cl cu (.not a)).t e M := Eq.trans rfl rfl
end
theorem ev_var_t {G : Gl} {cl : Cl} {cu : Option (Nat × List (Str × D))} {e : Env} {M : Store} (i : Nat) : (ev G cl cu (.var i)).t e M = ((ev G cl cu (.var i)).e e M).bind fun d M1 => ofO (truD M1 d) M1 := Eq.trans rfl rfl
theorem ev_var_c {G : Gl} {cl : Cl} {cu : Option (Nat × List (Str × D))} {e : Env} {M : Store} (i : Nat) : (ev G cl cu (.var i)).c e M = ((ev G cl cu (.var i)).e e M).bind fun d M1 => ofO (truD M1 d) M1 := Eq.trans rfl rfl
theorem ev_var_p {G : Gl} {cl : Cl} {cu : Option (Nat × List (Str × D))} {e : Env} {M : Store} (i : Nat) : (ev G cl cu (.var i)).p e M = ((ev G cl cu (.var i)).e e M).bind fun d M1 => asInt M1 d := Eq.trans rfl rfl
theorem ev_var_i {G : Gl} {cl : Cl} {cu : Option (Nat × List (Str × D))} {e : Env} {M : Store} (i : Nat) : (ev G cl cu (.var i)).i e M = ((ev G cl cu (.var i)).e e M).bind fun d M1 => srcOf M1 d := Eq.trans rfl rfl
theorem ev_non_t {G : Gl} {cl : Cl} {cu : Option (Nat × List (Str × D))} {e : Env} {M : Store}  : (ev G cl cu .non).t e M = ((ev G cl cu .non).e e M).bind fun d M1 => ofO (truD M1 d) M1 := Eq.trans rfl rfl
theorem ev_non_c {G : Gl} {cl : Cl} {cu : Option (Nat × List (Str × D))} {e : Env} {M : Store}  : (ev G cl cu .non).c e M = ((ev G cl cu .non).e e M).bind fun d M1 => ofO (truD M1 d) M1 := Eq.trans rfl rfl
theorem ev_non_p {G : Gl} {cl : Cl} {cu : Option (Nat × List (Str × D))} {e : Env} {M : Store}  : (ev G cl cu .non).p e M = ((ev G cl cu .non).e e M).bind fun d M1 => asInt M1 d := Eq.trans rfl rfl
theorem ev_non_i {G : Gl} {cl : Cl} {cu : Option (Nat × List (Str × D))} {e : Env} {M : Store}  : (ev G cl cu .non).i e M = ((ev G cl cu .non).e e M).bind fun d M1 => srcOf M1 d := Eq.trans rfl rfl
theorem ev_bl_t {G : Gl} {cl : Cl} {cu : Option (Nat × List (Str × D))} {e : Env} {M : Store} (b : Bool) : (ev G cl cu (.bl b)).t e M = ((ev G cl cu (.bl b)).e e M).bind fun d M1 => ofO (truD M1 d) M1 := Eq.trans rfl rfl
theorem ev_bl_c {G : Gl} {cl : Cl} {cu : Option (Nat × List (Str × D))} {e : Env} {M : Store} (b : Bool) : (ev G cl cu (.bl b)).c e M = ((ev G cl cu (.bl b)).e e M).bind fun d M1 => ofO (truD M1 d) M1 := Eq.trans rfl rfl
theorem ev_bl_p {G : Gl} {cl : Cl} {cu : Option (Nat × List (Str × D))} {e : Env} {M : Store} (b : Bool) : (ev G cl cu (.bl b)).p e M = ((ev G cl cu (.bl b)).e e M).bind fun d M1 => asInt M1 d := Eq.trans rfl rfl
theorem ev_bl_i {G : Gl} {cl : Cl} {cu : Option (Nat × List (Str × D))} {e : Env} {M : Store} (b : Bool) : (ev G cl cu (.bl b)).i e M = ((ev G cl cu (.bl b)).e e M).bind fun d M1 => srcOf M1 d := Eq.trans rfl rfl
theorem ev_int_t {G : Gl} {cl : Cl} {cu : Option (Nat × List (Str × D))} {e : Env} {M : Store} (i : Int) : (ev G cl cu (.int i)).t e M = ((ev G cl cu (.int i)).e e M).bind fun d M1 => ofO (truD M1 d) M1 := Eq.trans rfl rfl
theorem ev_int_c {G : Gl} {cl : Cl} {cu : Option (Nat × List (Str × D))} {e : Env} {M : Store} (i : Int) : (ev G cl cu (.int i)).c e M = ((ev G cl cu (.int i)).e e M).bind fun d M1 => ofO (truD M1 d) M1 := Eq.trans rfl rfl
theorem ev_int_p {G : Gl} {cl : Cl} {cu : Option (Nat × List (Str × D))} {e : Env} {M : Store} (i : Int) : (ev G cl cu (.int i)).p e M = ((ev G cl cu (.int i)).e e M).bind fun d M1 => asInt M1 d := Eq.trans rfl rfl
theorem ev_int_i {G : Gl} {cl : Cl} {cu : Option (Nat × List (Str × D))} {e : Env} {M : Store} (i : Int) : (ev G cl cu (.int i)).i e M = ((ev G cl cu (.int i)).e e M).bind fun d M1 => srcOf M1 d := Eq.trans rfl rfl
theorem ev_str_t {G : Gl} {cl : Cl} {cu : Option (Nat × List (Str × D))} {e : Env} {M : Store} (s : Str) : (ev G cl cu (.str s)).t e M = ((ev G cl cu (.str s)).e e M).bind fun d M1 => ofO (truD M1 d) M1 := Eq.trans rfl rfl
theorem ev_str_c {G : Gl} {cl : Cl} {cu : Option (Nat × List (Str × D))} {e : Env} {M : Store} (s : Str) : (ev G cl cu (.str s)).c e M = ((ev G cl cu (.str s)).e e M).bind fun d M1 => ofO (truD M1 d) M1 := Eq.trans rfl rfl
theorem ev_str_p {G : Gl} {cl : Cl} {cu : Option (Nat × List (Str × D))} {e : Env} {M : Store} (s : Str) : (ev G cl cu (.str s)).p e M = ((ev G cl cu (.str s)).e e M).bind fun d M1 => asInt M1 d := Eq.trans rfl rfl
theorem ev_str_i {G : Gl} {cl : Cl} {cu : Option (Nat × List (Str × D))} {e : Env} {M : Store} (s : Str) : (ev G cl cu (.str s)).i e M = ((ev G cl cu (.str s)).e e M).bind fun d M1 => srcOf M1 d := Eq.trans rfl rfl
theorem ev_glb_t {G : Gl} {cl : Cl} {cu : Option (Nat × List (Str × D))} {e : Env} {M : Store} (k : Nat) : (ev G cl cu (.glb k)).t e M = ((ev G cl cu (.glb k)).e e M).bind fun d M1 => ofO (truD M1 d) M1 := Eq.trans rfl rfl
theorem ev_glb_c {G : Gl} {cl : Cl} {cu : Option (Nat × List (Str × D))} {e : Env} {M : Store} (k : Nat) : (ev G cl cu (.glb k)).c e M = ((ev G cl cu (.glb k)).e e M).bind fun d M1 => ofO (truD M1 d) M1 := Eq.trans rfl rfl
theorem ev_glb_p {G : Gl} {cl : Cl} {cu : Option (Nat × List (Str × D))} {e : Env} {M : Store} (k : Nat) : (ev G cl cu (.glb k)).p e M = ((ev G cl cu (.glb k)).e e M).bind fun d M1 => asInt M1 d := Eq.trans rfl rfl
theorem ev_glb_i {G : Gl} {cl : Cl} {cu : Option (Nat × List (Str × D))} {e : Env} {M : Store} (k : Nat) : (ev G cl cu (.glb k)).i e M = ((ev G cl cu (.glb k)).e e M).bind fun d M1 => srcOf M1 d := Eq.trans rfl rfl
theorem ev_bin_t {G : Gl} {cl : Cl} {cu : Option (Nat × List (Str × D))} {e : Env} {M : Store} (o : Op) (a b : E) : (ev G cl cu (.bin o a b)).t e M = ((ev G cl cu (.bin o a b)).e e M).bind fun d M1 => ofO (truD M1 d) M1 := Eq.trans rfl rfl
theorem ev_bin_c {G : Gl} {cl : Cl} {cu : Option (Nat × List (Str × D))} {e : Env} {M : Store} (o : Op) (a b : E) : (ev G cl cu (.bin o a b)).c e M = ((ev G cl cu (.bin o a b)).e e M).bind fun d M1 => ofO (truD M1 d) M1 := Eq.trans rfl rfl
theorem ev_bin_p {G : Gl} {cl : Cl} {cu : Option (Nat × List (Str × D))} {e : Env} {M : Store} (o : Op) (a b : E) : (ev G cl cu (.bin o a b)).p e M = ((ev G cl cu (.bin o a b)).e e M).bind fun d M1 => asInt M1 d := Eq.trans rfl rfl
theorem ev_bin_i {G : Gl} {cl : Cl} {cu : Option (Nat × List (Str × D))} {e : Env} {M : Store} (o : Op) (a b : E) : (ev G cl cu (.bin o a b)).i e M = ((ev G cl cu (.bin o a b)).e e M).bind fun d M1 => srcOf M1 d := Eq.trans rfl rfl
theorem ev_neg_t {G : Gl} {cl : Cl} {cu : Option (Nat × List (Str × D))} {e : Env} {M : Store} (a : E) : (ev G cl cu (.neg a)).t e M = ((ev G cl cu (.neg a)).e e M).bind fun d M1 => ofO (truD M1 d) M1 := Eq.trans rfl rfl
theorem ev_neg_c {G : Gl} {cl : Cl} {cu : Option (Nat × List (Str × D))} {e : Env} {M : Store} (a : E) : (ev G cl cu (.neg a)).c e M = ((ev G cl cu (.neg a)).e e M).bind fun d M1 => ofO (truD M1 d) M1 := Eq.trans rfl rfl
theorem ev_neg_p {G : Gl} {cl : Cl} {cu : Option (Nat × List (Str × D))} {e : Env} {M : Store} (a : E) : (ev G cl cu (.neg a)).p e M = ((ev G cl cu (.neg a)).e e M).bind fun d M1 => asInt M1 d := Eq.trans rfl rfl
theorem ev_neg_i {G : Gl} {cl : Cl} {cu : Option (Nat × List (Str × D))} {e : Env} {M : Store} (a : E) : (ev G cl cu (.neg a)).i e M = ((ev G cl cu (.neg a)).e e M).bind fun d M1 => srcOf M1 d := Eq.trans rfl rfl
theorem ev_cmp_t {G : Gl} {cl : Cl} {cu : Option (Nat × List (Str × D))} {e : Env} {M : Store} (o : Co) (a b : E) : (ev G cl cu (.cmp o a b)).t e M = ((ev G cl cu (.cmp o a b)).e e M).bind fun d M1 => ofO (truD M1 d) M1 := Eq.trans rfl rfl
theorem ev_cmp_c {G : Gl} {cl : Cl} {cu : Option (Nat × List (Str × D))} {e : Env} {M : Store} (o : Co) (a b : E) : (ev G cl cu (.cmp o a b)).c e M = ((ev G cl cu (.cmp o a b)).e e M).bind fun d M1 => ofO (truD M1 d) M1 := Eq.trans rfl rfl
theorem ev_cmp_p {G : Gl} {cl : Cl} {cu : Option (Nat × List (Str × D))} {e : Env} {M : Store} (o : Co) (a b : E) : (ev G cl cu (.cmp o a b)).p e M = ((ev G cl cu (.cmp o a b)).e e M).bind fun d M1 => asInt M1 d := Eq.trans rfl rfl
theorem ev_cmp_i {G : Gl} {cl : Cl} {cu : Option (Nat × List (Str × D))} {e : Env} {M : Store} (o : Co) (a b : E) : (ev G cl cu (.cmp o a b)).i e M = ((ev G cl cu (.cmp o a b)).e e M).bind fun d M1 => srcOf M1 d := Eq.trans rfl rfl
theorem ev_chn_t {G : Gl} {cl : Cl} {cu : Option (Nat × List (Str × D))} {e : Env} {M : Store} (o p : Co) (a b c : E) : (ev G cl cu (.chn o p a b c)).t e M = ((ev G cl cu (.chn o p a b c)).e e M).bind fun d M1 => ofO (truD M1 d) M1 := Eq.trans rfl rfl
theorem ev_chn_c {G : Gl} {cl : Cl} {cu : Option (Nat × List (Str × D))} {e : Env} {M : Store} (o p : Co) (a b c : E) : (ev G cl cu (.chn o p a b c)).c e M = ((ev G cl cu (.chn o p a b c)).e e M).bind fun d M1 => ofO (truD M1 d) M1 := Eq.trans rfl rfl
theorem ev_chn_p {G : Gl} {cl : Cl} {cu : Option (Nat × List (Str × D))} {e : Env} {M : Store} (o p : Co) (a b c : E) : (ev G cl cu (.chn o p a b c)).p e M = ((ev G cl cu (.chn o p a b c)).e e M).bind fun d M1 => asInt M1 d := Eq.trans rfl rfl
theorem ev_chn_i {G : Gl} {cl : Cl} {cu : Option (Nat × List (Str × D))} {e : Env} {M : Store} (o p : Co) (a b c : E) : (ev G cl cu (.chn o p a b c)).i e M = ((ev G cl cu (.chn o p a b c)).e e M).bind fun d M1 => srcOf M1 d := Eq.trans rfl rfl
theorem ev_tup_t {G : Gl} {cl : Cl} {cu : Option (Nat × List (Str × D))} {e : Env} {M : Store} (a : E) : (ev G cl cu (.tup a)).t e M = ((ev G cl cu (.tup a)).e e M).bind fun d M1 => ofO (truD M1 d) M1 := Eq.trans rfl rfl
theorem ev_tup_c {G : Gl} {cl : Cl} {cu : Option (Nat × List (Str × D))} {e : Env} {M : Store} (a : E) : (ev G cl cu (.tup a)).c e M = ((ev G cl cu (.tup a)).e e M).bind fun d M1 => ofO (truD M1 d) M1 := Eq.trans rfl rfl
theorem ev_tup_p {G : Gl} {cl : Cl} {cu : Option (Nat × List (Str × D))} {e : Env} {M : Store} (a : E) : (ev G cl cu (.tup a)).p e M = ((ev G cl cu (.tup a)).e e M).bind fun d M1 => asInt M1 d := Eq.trans rfl rfl
theorem ev_tup_i {G : Gl} {cl : Cl} {cu : Option (Nat × List (Str × D))} {e : Env} {M : Store} (a : E) : (ev G cl cu (.tup a)).i e M = ((ev G cl cu (.tup a)).e e M).bind fun d M1 => srcOf M1 d := Eq.trans rfl rfl
theorem ev_lst_t {G : Gl} {cl : Cl} {cu : Option (Nat × List (Str × D))} {e : Env} {M : Store} (a : E) : (ev G cl cu (.lst a)).t e M = ((ev G cl cu (.lst a)).e e M).bind fun d M1 => ofO (truD M1 d) M1 := Eq.trans rfl rfl
theorem ev_lst_c {G : Gl} {cl : Cl} {cu : Option (Nat × List (Str × D))} {e : Env} {M : Store} (a : E) : (ev G cl cu (.lst a)).c e M = ((ev G cl cu (.lst a)).e e M).bind fun d M1 => ofO (truD M1 d) M1 := Eq.trans rfl rfl
theorem ev_lst_p {G : Gl} {cl : Cl} {cu : Option (Nat × List (Str × D))} {e : Env} {M : Store} (a : E) : (ev G cl cu (.lst a)).p e M = ((ev G cl cu (.lst a)).e e M).bind fun d M1 => asInt M1 d := Eq.trans rfl rfl
theorem ev_lst_i {G : Gl} {cl : Cl} {cu : Option (Nat × List (Str × D))} {e : Env} {M : Store} (a : E) : (ev G cl cu (.lst a)).i e M = ((ev G cl cu (.lst a)).e e M).bind fun d M1 => srcOf M1 d := Eq.trans rfl rfl
theorem ev_idx_t {G : Gl} {cl : Cl} {cu : Option (Nat × List (Str × D))} {e : Env} {M : Store} (a b : E) : (ev G cl cu (.idx a b)).t e M = ((ev G cl cu (.idx a b)).e e M).bind fun d M1 => ofO (truD M1 d) M1 := Eq.trans rfl rfl
theorem ev_idx_c {G : Gl} {cl : Cl} {cu : Option (Nat × List (Str × D))} {e : Env} {M : Store} (a b : E) : (ev G cl cu (.idx a b)).c e M = ((ev G cl cu (.idx a b)).e e M).bind fun d M1 => ofO (truD M1 d) M1 := Eq.trans rfl rfl
theorem ev_idx_p {G : Gl} {cl : Cl} {cu : Option (Nat × List (Str × D))} {e : Env} {M : Store} (a b : E) : (ev G cl cu (.idx a b)).p e M = ((ev G cl cu (.idx a b)).e e M).bind fun d M1 => asInt M1 d := Eq.trans rfl rfl
theorem ev_idx_i {G : Gl} {cl : Cl} {cu : Option (Nat × List (Str × D))} {e : Env} {M : Store} (a b : E) : (ev G cl cu (.idx a b)).i e M = ((ev G cl cu (.idx a b)).e e M).bind fun d M1 => srcOf M1 d := Eq.trans rfl rfl
theorem ev_slc_t {G : Gl} {cl : Cl} {cu : Option (Nat × List (Str × D))} {e : Env} {M : Store} (a b c : E) : (ev G cl cu (.slc a b c)).t e M = ((ev G cl cu (.slc a b c)).e e M).bind fun d M1 => ofO (truD M1 d) M1 := Eq.trans rfl rfl
theorem ev_slc_c {G : Gl} {cl : Cl} {cu : Option (Nat × List (Str × D))} {e : Env} {M : Store} (a b c : E) : (ev G cl cu (.slc a b c)).c e M = ((ev G cl cu (.slc a b c)).e e M).bind fun d M1 => ofO (truD M1 d) M1 := Eq.trans rfl rfl
theorem ev_slc_p {G : Gl} {cl : Cl} {cu : Option (Nat × List (Str × D))} {e : Env} {M : Store} (a b c : E) : (ev G cl cu (.slc a b c)).p e M = ((ev G cl cu (.slc a b c)).e e M).bind fun d M1 => asInt M1 d := Eq.trans rfl rfl
theorem ev_slc_i {G : Gl} {cl : Cl} {cu : Option (Nat × List (Str × D))} {e : Env} {M : Store} (a b c : E) : (ev G cl cu (.slc a b c)).i e M = ((ev G cl cu (.slc a b c)).e e M).bind fun d M1 => srcOf M1 d := Eq.trans rfl rfl
theorem ev_fld_t {G : Gl} {cl : Cl} {cu : Option (Nat × List (Str × D))} {e : Env} {M : Store} (a : E) (f : Str) : (ev G cl cu (.fld a f)).t e M = ((ev G cl cu (.fld a f)).e e M).bind fun d M1 => ofO (truD M1 d) M1 := Eq.trans rfl rfl
theorem ev_fld_c {G : Gl} {cl : Cl} {cu : Option (Nat × List (Str × D))} {e : Env} {M : Store} (a : E) (f : Str) : (ev G cl cu (.fld a f)).c e M = ((ev G cl cu (.fld a f)).e e M).bind fun d M1 => ofO (truD M1 d) M1 := Eq.trans rfl rfl
theorem ev_fld_p {G : Gl} {cl : Cl} {cu : Option (Nat × List (Str × D))} {e : Env} {M : Store} (a : E) (f : Str) : (ev G cl cu (.fld a f)).p e M = ((ev G cl cu (.fld a f)).e e M).bind fun d M1 => asInt M1 d := Eq.trans rfl rfl
theorem ev_fld_i {G : Gl} {cl : Cl} {cu : Option (Nat × List (Str × D))} {e : Env} {M : Store} (a : E) (f : Str) : (ev G cl cu (.fld a f)).i e M = ((ev G cl cu (.fld a f)).e e M).bind fun d M1 => srcOf M1 d := Eq.trans rfl rfl
theorem ev_cal_t {G : Gl} {cl : Cl} {cu : Option (Nat × List (Str × D))} {e : Env} {M : Store} (f : Nat) (a : E) : (ev G cl cu (.cal f a)).t e M = ((ev G cl cu (.cal f a)).e e M).bind fun d M1 => ofO (truD M1 d) M1 := Eq.trans rfl rfl
theorem ev_cal_c {G : Gl} {cl : Cl} {cu : Option (Nat × List (Str × D))} {e : Env} {M : Store} (f : Nat) (a : E) : (ev G cl cu (.cal f a)).c e M = ((ev G cl cu (.cal f a)).e e M).bind fun d M1 => ofO (truD M1 d) M1 := Eq.trans rfl rfl
theorem ev_cal_p {G : Gl} {cl : Cl} {cu : Option (Nat × List (Str × D))} {e : Env} {M : Store} (f : Nat) (a : E) : (ev G cl cu (.cal f a)).p e M = ((ev G cl cu (.cal f a)).e e M).bind fun d M1 => asInt M1 d := Eq.trans rfl rfl
theorem ev_cal_i {G : Gl} {cl : Cl} {cu : Option (Nat × List (Str × D))} {e : Env} {M : Store} (f : Nat) (a : E) : (ev G cl cu (.cal f a)).i e M = ((ev G cl cu (.cal f a)).e e M).bind fun d M1 => srcOf M1 d := Eq.trans rfl rfl
theorem ev_mak_t {G : Gl} {cl : Cl} {cu : Option (Nat × List (Str × D))} {e : Env} {M : Store} (f : Nat) (a : E) : (ev G cl cu (.mak f a)).t e M = ((ev G cl cu (.mak f a)).e e M).bind fun d M1 => ofO (truD M1 d) M1 := Eq.trans rfl rfl
theorem ev_mak_c {G : Gl} {cl : Cl} {cu : Option (Nat × List (Str × D))} {e : Env} {M : Store} (f : Nat) (a : E) : (ev G cl cu (.mak f a)).c e M = ((ev G cl cu (.mak f a)).e e M).bind fun d M1 => ofO (truD M1 d) M1 := Eq.trans rfl rfl
theorem ev_mak_p {G : Gl} {cl : Cl} {cu : Option (Nat × List (Str × D))} {e : Env} {M : Store} (f : Nat) (a : E) : (ev G cl cu (.mak f a)).p e M = ((ev G cl cu (.mak f a)).e e M).bind fun d M1 => asInt M1 d := Eq.trans rfl rfl
theorem ev_mak_i {G : Gl} {cl : Cl} {cu : Option (Nat × List (Str × D))} {e : Env} {M : Store} (f : Nat) (a : E) : (ev G cl cu (.mak f a)).i e M = ((ev G cl cu (.mak f a)).e e M).bind fun d M1 => srcOf M1 d := Eq.trans rfl rfl
theorem ev_mth_t {G : Gl} {cl : Cl} {cu : Option (Nat × List (Str × D))} {e : Env} {M : Store} (a : E) (m : Nat) (b : E) : (ev G cl cu (.mth a m b)).t e M = ((ev G cl cu (.mth a m b)).e e M).bind fun d M1 => ofO (truD M1 d) M1 := Eq.trans rfl rfl
theorem ev_mth_c {G : Gl} {cl : Cl} {cu : Option (Nat × List (Str × D))} {e : Env} {M : Store} (a : E) (m : Nat) (b : E) : (ev G cl cu (.mth a m b)).c e M = ((ev G cl cu (.mth a m b)).e e M).bind fun d M1 => ofO (truD M1 d) M1 := Eq.trans rfl rfl
theorem ev_mth_p {G : Gl} {cl : Cl} {cu : Option (Nat × List (Str × D))} {e : Env} {M : Store} (a : E) (m : Nat) (b : E) : (ev G cl cu (.mth a m b)).p e M = ((ev G cl cu (.mth a m b)).e e M).bind fun d M1 => asInt M1 d := Eq.trans rfl rfl
theorem ev_mth_i {G : Gl} {cl : Cl} {cu : Option (Nat × List (Str × D))} {e : Env} {M : Store} (a : E) (m : Nat) (b : E) : (ev G cl cu (.mth a m b)).i e M = ((ev G cl cu (.mth a m b)).e e M).bind fun d M1 => srcOf M1 d := Eq.trans rfl rfl
theorem ev_bi_t {G : Gl} {cl : Cl} {cu : Option (Nat × List (Str × D))} {e : Env} {M : Store} (f : Bi) (a : E) : (ev G cl cu (.bi f a)).t e M = ((ev G cl cu (.bi f a)).e e M).bind fun d M1 => ofO (truD M1 d) M1 := Eq.trans rfl rfl
theorem ev_bi_c {G : Gl} {cl : Cl} {cu : Option (Nat × List (Str × D))} {e : Env} {M : Store} (f : Bi) (a : E) : (ev G cl cu (.bi f a)).c e M = ((ev G cl cu (.bi f a)).e e M).bind fun d M1 => ofO (truD M1 d) M1 := Eq.trans rfl rfl
theorem ev_bi_p {G : Gl} {cl : Cl} {cu : Option (Nat × List (Str × D))} {e : Env} {M : Store} (f : Bi) (a : E) : (ev G cl cu (.bi f a)).p e M = ((ev G cl cu (.bi f a)).e e M).bind fun d M1 => asInt M1 d := Eq.trans rfl rfl
theorem ev_bi_i {G : Gl} {cl : Cl} {cu : Option (Nat × List (Str × D))} {e : Env} {M : Store} (f : Bi) (a : E) : (ev G cl cu (.bi f a)).i e M = ((ev G cl cu (.bi f a)).e e M).bind fun d M1 => srcOf M1 d := Eq.trans rfl rfl
theorem ev_bm_t {G : Gl} {cl : Cl} {cu : Option (Nat × List (Str × D))} {e : Env} {M : Store} (m : Bm) (a b : E) : (ev G cl cu (.bm m a b)).t e M = ((ev G cl cu (.bm m a b)).e e M).bind fun d M1 => ofO (truD M1 d) M1 := Eq.trans rfl rfl
theorem ev_bm_c {G : Gl} {cl : Cl} {cu : Option (Nat × List (Str × D))} {e : Env} {M : Store} (m : Bm) (a b : E) : (ev G cl cu (.bm m a b)).c e M = ((ev G cl cu (.bm m a b)).e e M).bind fun d M1 => ofO (truD M1 d) M1 := Eq.trans rfl rfl
theorem ev_bm_p {G : Gl} {cl : Cl} {cu : Option (Nat × List (Str × D))} {e : Env} {M : Store} (m : Bm) (a b : E) : (ev G cl cu (.bm m a b)).p e M = ((ev G cl cu (.bm m a b)).e e M).bind fun d M1 => asInt M1 d := Eq.trans rfl rfl
theorem ev_bm_i {G : Gl} {cl : Cl} {cu : Option (Nat × List (Str × D))} {e : Env} {M : Store} (m : Bm) (a b : E) : (ev G cl cu (.bm m a b)).i e M = ((ev G cl cu (.bm m a b)).e e M).bind fun d M1 => srcOf M1 d := Eq.trans rfl rfl
theorem ev_isi_t {G : Gl} {cl : Cl} {cu : Option (Nat × List (Str × D))} {e : Env} {M : Store} (a : E) (t : Ty) : (ev G cl cu (.isi a t)).t e M = ((ev G cl cu (.isi a t)).e e M).bind fun d M1 => ofO (truD M1 d) M1 := Eq.trans rfl rfl
theorem ev_isi_c {G : Gl} {cl : Cl} {cu : Option (Nat × List (Str × D))} {e : Env} {M : Store} (a : E) (t : Ty) : (ev G cl cu (.isi a t)).c e M = ((ev G cl cu (.isi a t)).e e M).bind fun d M1 => ofO (truD M1 d) M1 := Eq.trans rfl rfl
theorem ev_isi_p {G : Gl} {cl : Cl} {cu : Option (Nat × List (Str × D))} {e : Env} {M : Store} (a : E) (t : Ty) : (ev G cl cu (.isi a t)).p e M = ((ev G cl cu (.isi a t)).e e M).bind fun d M1 => asInt M1 d := Eq.trans rfl rfl
theorem ev_isi_i {G : Gl} {cl : Cl} {cu : Option (Nat × List (Str × D))} {e : Env} {M : Store} (a : E) (t : Ty) : (ev G cl cu (.isi a t)).i e M = ((ev G cl cu (.isi a t)).e e M).bind fun d M1 => srcOf M1 d := Eq.trans rfl rfl
theorem ev_isx_t {G : Gl} {cl : Cl} {cu : Option (Nat × List (Str × D))} {e : Env} {M : Store} (c : Nat) : (ev G cl cu (.isx c)).t e M = ((ev G cl cu (.isx c)).e e M).bind fun d M1 => ofO (truD M1 d) M1 := Eq.trans rfl rfl
theorem ev_isx_c {G : Gl} {cl : Cl} {cu : Option (Nat × List (Str × D))} {e : Env} {M : Store} (c : Nat) : (ev G cl cu (.isx c)).c e M = ((ev G cl cu (.isx c)).e e M).bind fun d M1 => ofO (truD M1 d) M1 := Eq.trans rfl rfl
theorem ev_isx_p {G : Gl} {cl : Cl} {cu : Option (Nat × List (Str × D))} {e : Env} {M : Store} (c : Nat) : (ev G cl cu (.isx c)).p e M = ((ev G cl cu (.isx c)).e e M).bind fun d M1 => asInt M1 d := Eq.trans rfl rfl
theorem ev_isx_i {G : Gl} {cl : Cl} {cu : Option (Nat × List (Str × D))} {e : Env} {M : Store} (c : Nat) : (ev G cl cu (.isx c)).i e M = ((ev G cl cu (.isx c)).e e M).bind fun d M1 => srcOf M1 d := Eq.trans rfl rfl
theorem ev_xfd_t {G : Gl} {cl : Cl} {cu : Option (Nat × List (Str × D))} {e : Env} {M : Store} (f : Str) : (ev G cl cu (.xfd f)).t e M = ((ev G cl cu (.xfd f)).e e M).bind fun d M1 => ofO (truD M1 d) M1 := Eq.trans rfl rfl
theorem ev_xfd_c {G : Gl} {cl : Cl} {cu : Option (Nat × List (Str × D))} {e : Env} {M : Store} (f : Str) : (ev G cl cu (.xfd f)).c e M = ((ev G cl cu (.xfd f)).e e M).bind fun d M1 => ofO (truD M1 d) M1 := Eq.trans rfl rfl
theorem ev_xfd_p {G : Gl} {cl : Cl} {cu : Option (Nat × List (Str × D))} {e : Env} {M : Store} (f : Str) : (ev G cl cu (.xfd f)).p e M = ((ev G cl cu (.xfd f)).e e M).bind fun d M1 => asInt M1 d := Eq.trans rfl rfl
theorem ev_xfd_i {G : Gl} {cl : Cl} {cu : Option (Nat × List (Str × D))} {e : Env} {M : Store} (f : Str) : (ev G cl cu (.xfd f)).i e M = ((ev G cl cu (.xfd f)).e e M).bind fun d M1 => srcOf M1 d := Eq.trans rfl rfl
theorem ev_cmp1_t {G : Gl} {cl : Cl} {cu : Option (Nat × List (Str × D))} {e : Env} {M : Store} (x : E) (tg : List Nat) (sole : Bool) (own : List Nat) (a b : E) : (ev G cl cu (.cmp1 x tg sole own a b)).t e M = ((ev G cl cu (.cmp1 x tg sole own a b)).e e M).bind fun d M1 => ofO (truD M1 d) M1 := Eq.trans rfl rfl
theorem ev_cmp1_c {G : Gl} {cl : Cl} {cu : Option (Nat × List (Str × D))} {e : Env} {M : Store} (x : E) (tg : List Nat) (sole : Bool) (own : List Nat) (a b : E) : (ev G cl cu (.cmp1 x tg sole own a b)).c e M = ((ev G cl cu (.cmp1 x tg sole own a b)).e e M).bind fun d M1 => ofO (truD M1 d) M1 := Eq.trans rfl rfl
theorem ev_cmp1_p {G : Gl} {cl : Cl} {cu : Option (Nat × List (Str × D))} {e : Env} {M : Store} (x : E) (tg : List Nat) (sole : Bool) (own : List Nat) (a b : E) : (ev G cl cu (.cmp1 x tg sole own a b)).p e M = ((ev G cl cu (.cmp1 x tg sole own a b)).e e M).bind fun d M1 => asInt M1 d := Eq.trans rfl rfl
theorem ev_cmp1_i {G : Gl} {cl : Cl} {cu : Option (Nat × List (Str × D))} {e : Env} {M : Store} (x : E) (tg : List Nat) (sole : Bool) (own : List Nat) (a b : E) : (ev G cl cu (.cmp1 x tg sole own a b)).i e M = ((ev G cl cu (.cmp1 x tg sole own a b)).e e M).bind fun d M1 => srcOf M1 d := Eq.trans rfl rfl
/-- the other forms are tested by their value -/
def valF : E → Bool
  | .and _ _ => false | .or _ _ => false | .not _ => false | .ife _ _ _ => false | .nil => false | .cons _ _ => false | .rng _ => false | _ => true
section
variable {G : Gl} {cl : Cl} {cu : Option (Nat × List (Str × D))} {e : Env} {M : Store}
theorem ev_t {x : E} (h : valF x = true) : (ev G cl cu x).t e M = ((ev G cl cu x).e e M).bind fun d M1 => ofO (truD M1 d) M1 := by
  cases x <;> first | rfl | cases h
theorem ev_c {x : E} (h : valF x = true) : (ev G cl cu x).c e M = ((ev G cl cu x).e e M).bind fun d M1 => ofO (truD M1 d) M1 := by
  cases x <;> first | rfl | cases h
theorem ev_p {x : E} (h : valF x = true) : (ev G cl cu x).p e M = ((ev G cl cu x).e e M).bind fun d M1 => asInt M1 d := by
  cases x <;> first | rfl | cases h
theorem ev_i {x : E} (h : valF x = true) : (ev G cl cu x).i e M = ((ev G cl cu x).e e M).bind fun d M1 => srcOf M1 d := by
  cases x <;> first | rfl | cases h
end

theorem ofO_some {α : Type} (a : α) (M : Store) : ofO (some a) M = .ok a M := Eq.trans rfl rfl
theorem ofO_none {α : Type} (M : Store) : (ofO (none : Option α) M) = .bad := Eq.trans rfl rfl
theorem truD_bl (M : Store) (b : Bool) : truD M (.bl b) = some b := Eq.trans rfl rfl
theorem truD_int (M : Store) (i : Int) : truD M (.int i) = some (i != 0) := Eq.trans rfl rfl
theorem truD_non (M : Store) : truD M .non = some false := Eq.trans rfl rfl
theorem andE_tt (k : Store → Out D) (M : Store) : andE (.bl true) k M = k M := Eq.trans rfl rfl
theorem andE_ff (k : Store → Out D) (M : Store) : andE (.bl false) k M = .ok (.bl false) M := Eq.trans rfl rfl
theorem orE_tt (k : Store → Out D) (M : Store) : orE (.bl true) k M = .ok (.bl true) M := Eq.trans rfl rfl
theorem orE_ff (k : Store → Out D) (M : Store) : orE (.bl false) k M = k M := Eq.trans rfl rfl
/-! statements -/
section
variable {G : Gl} {cl : Cl} {cu : Option (Nat × List (Str × D))} {e : Env} {M : Store}
theorem ex_nil : exS G cl .nil cu e M = .nx e M := Eq.trans rfl rfl
theorem ex_cons (x y : S) : exS G cl (.cons x y) cu e M = (exS G cl x cu e M).andThen (exS G cl y cu) := Eq.trans rfl rfl
theorem ex_asg (t : T) (x : E) : exS G cl (.asg t x) cu e M = ((ev G cl cu x).e e M).run e fun v M1 => asgT G cl cu t v e M1 := Eq.trans rfl rfl
theorem ex_ex (x : E) : exS G cl (.ex x) cu e M = ((ev G cl cu x).e e M).run e fun _ M1 => .nx e M1 := Eq.trans rfl rfl
theorem ex_ret (x : E) : exS G cl (.ret x) cu e M = ((ev G cl cu x).e e M).run e fun v M1 => .rt v M1 := Eq.trans rfl rfl
theorem ex_retN : exS G cl .retN cu e M = .rt .non M := Eq.trans rfl rfl
theorem ex_pas : exS G cl .pas cu e M = .nx e M := Eq.trans rfl rfl
theorem ex_ite (c : E) (a b : S) : exS G cl (.ite c a b) cu e M = ((ev G cl cu c).t e M).run e fun t M1 => if t = true then exS G cl a cu e M1 else exS G cl b cu e M1 := Eq.trans rfl rfl
theorem ex_for (tg : List Nat) (sole : Bool) (it : E) (body : S) : exS G cl (.for_ tg sole it body) cu e M = ((ev G cl cu it).i e M).run e fun s M1 => forL s tg sole (exS G cl body cu) s.items e M1 := Eq.trans rfl rfl
theorem ex_whl (c : E) (body : S) : exS G cl (.whl c body) cu e M = whlL ((ev G cl cu c).t) (exS G cl body cu) 100000 e M := Eq.trans rfl rfl
theorem ex_rai (c : Nat) (es : E) : exS G cl (.rai c es) cu e M = ((ev G cl cu es).a e M).run e fun vs M1 => raiE G c vs e M1 := Eq.trans rfl rfl
theorem asg_nm (i : Nat) (v : D) : asgT G cl cu (.nm i) v e M = .nx (e.set i (some v)) M := Eq.trans rfl rfl
end
theorem asg_sub {G : Gl} {cl : Cl} {cu : Option (Nat × List (Str × D))} {e : Env} {M : Store} (o i : E) (v : D) : asgT G cl cu (.sub o i) v e M = ((ev G cl cu o).e e M).run e fun x M1 => ((ev G cl cu i).e e M1).run e fun y M2 => (setE M2 x y v).run e fun _ M3 => .nx e M3 := Eq.trans rfl rfl
theorem asg_att {G : Gl} {cl : Cl} {cu : Option (Nat × List (Str × D))} {e : Env} {M : Store} (o : E) (f : Str) (v : D) : asgT G cl cu (.att o f) v e M = ((ev G cl cu o).e e M).run e fun x M1 => (attE G M1 x f v).run e fun _ M2 => .nx e M2 := Eq.trans rfl rfl
/-! ### a call -/
theorem call_eq {G : Gl} {P : Nat → Option Def} {n f : Nat} {d : Def} {vs : List D} {M : Store} (h : P f = some d) (l : vs.length = d.np) : callN G P (n + 1) f vs M = (match exS G (callN G P n) d.body none (vs.map some ++ List.replicate (d.ns - vs.length) none) M with
        | .nx _ M1 => fin M .non M1
        | .rt v M1 => fin M v M1
        | .exc c fs _ M1 => if oldOk M M1 = true ∧ (fs.all fun kv => kv.2.und 0) = true then .exc c fs (M1.take M.length) else .bad
        | .bad => .bad) := by
  show (match P f with | some d => _ | none => _) = _
  rw [h]
  show (if vs.length = d.np then _ else _) = _
  rw [if_pos l] <;> rfl
end Dv
end

section
set_option Elab.async false
set_option autoImplicit false
set_option linter.all false
set_option maxRecDepth 100000
/-! DvU: what is wanted of the evaluator's ends. -/
namespace Dv
open PySem
abbrev Xn : Type := Nat → List (Str × D) → Store → Prop
def Wp {α : Type} (o : Out α) (Q : α → Store → Prop) (X : Xn) : Prop := match o with
  | .ok a M => Q a M
  | .exc c fs M => X c fs M
  | .bad => False
def Ws (r : Rs) (N : Env → Store → Prop) (R : D → Store → Prop) (X : Nat → List (Str × D) → Env → Store → Prop) : Prop := match r with
  | .nx e M => N e M
  | .rt d M => R d M
  | .exc c fs e M => X c fs e M
  | .bad => False
section
variable {α β : Type} {Q : β → Store → Prop} {X : Xn} {N : Env → Store → Prop} {R : D → Store → Prop} {XS : Nat → List (Str × D) → Env → Store → Prop} {e : Env} {M : Store}
theorem wp_ok (a : β) : Wp (.ok a M) Q X = Q a M := Eq.trans rfl rfl
theorem wp_exc (c : Nat) (fs : List (Str × D)) : Wp (.exc c fs M : Out β) Q X = X c fs M := Eq.trans rfl rfl
theorem wp_bad : Wp (.bad : Out β) Q X = False := Eq.trans rfl rfl
theorem wp_bind (o : Out α) (f : α → Store → Out β) : Wp (o.bind f) Q X = Wp o (fun a M => Wp (f a M) Q X) X := by cases o <;> rfl
theorem wp_if (c : Prop) [Decidable c] (a b : Out β) : Wp (if c then a else b) Q X = if c then Wp a Q X else Wp b Q X := by by_cases h : c <;> simp [h]
theorem wp_nox (o : Out β) : Wp o.nox Q X = Wp o Q (fun _ _ _ => False) := by cases o <;> rfl
theorem wp_ofO (o : Option β) : Wp (ofO o M) Q X = ∃ a, o = some a ∧ Q a M := by cases o <;> simp [ofO, Wp]
theorem ws_nx : Ws (.nx e M) N R XS = N e M := Eq.trans rfl rfl
theorem ws_rt (d : D) : Ws (.rt d M) N R XS = R d M := Eq.trans rfl rfl
theorem ws_exc (c : Nat) (fs : List (Str × D)) : Ws (.exc c fs e M) N R XS = XS c fs e M := Eq.trans rfl rfl
theorem ws_bad : Ws .bad N R XS = False := Eq.trans rfl rfl
theorem ws_run (o : Out α) (f : α → Store → Rs) : Ws (o.run e f) N R XS = Wp o (fun a M => Ws (f a M) N R XS) (fun c fs M => XS c fs e M) := by cases o <;> rfl
theorem ws_then (r : Rs) (f : Env → Store → Rs) : Ws (r.andThen f) N R XS = Ws r (fun e M => Ws (f e M) N R XS) R XS := by cases r <;> rfl
theorem ws_if (c : Prop) [Decidable c] (a b : Rs) : Ws (if c then a else b) N R XS = if c then Ws a N R XS else Ws b N R XS := by by_cases h : c <;> simp [h]
theorem Wp.mono {o : Out β} {Q' : β → Store → Prop} {X' : Xn} (h : Wp o Q X) (hq : ∀ a M, Q a M → Q' a M) (hx : ∀ c fs M, X c fs M → X' c fs M) : Wp o Q' X' := by
  cases o with
  | ok a M => exact hq a M h
  | exc c fs M => exact hx c fs M h
  | bad => exact h
theorem Ws.mono {r : Rs} {N' : Env → Store → Prop} {R' : D → Store → Prop} {XS' : Nat → List (Str × D) → Env → Store → Prop} (h : Ws r N R XS) (hn : ∀ e M, N e M → N' e M) (hr : ∀ d M, R d M → R' d M) (hx : ∀ c fs e M, XS c fs e M → XS' c fs e M) : Ws r N' R' XS' := by
  cases r with
  | nx e M => exact hn e M h
  | rt d M => exact hr d M h
  | exc c fs e M => exact hx c fs e M h
  | bad => exact h
theorem ws_cons {G : Gl} {cl : Cl} {cu : Option (Nat × List (Str × D))} (x y : S) : Ws (exS G cl (.cons x y) cu e M) N R XS = Ws (exS G cl x cu e M) (fun e M => Ws (exS G cl y cu e M) N R XS) R XS := by
  rw [ex_cons, ws_then]
theorem ws_tri {G : Gl} {cl : Cl} {cu : Option (Nat × List (Str × D))} (body suite : S) (c : Nat) (nm : Option Nat) : Ws (exS G cl (.tri body c nm suite) cu e M) N R XS =
    Ws (exS G cl body cu e M) N R (fun k fs e1 M1 => if G.isc k = true then (if G.sub k c = true then Ws (exS G cl suite (match nm with | some _ => some (k, fs) | none => none) (match nm with | some i => e1.set i none | none => e1) M1) (fun e2 M2 => N (match nm with | some i => e2.set i none | none => e2) M2) R (fun _ _ _ _ => False) else XS k fs e1 M1) else False) := by
  show Ws (match exS G cl body cu e M with
    | .exc k fs e1 M1 => if G.isc k = true then
        if G.sub k c = true then endTry nm (exS G cl suite (match nm with | some _ => some (k, fs) | none => none) (match nm with | some i => e1.set i none | none => e1) M1) else .exc k fs e1 M1
      else .bad
    | r => r) N R XS = _
  cases exS G cl body cu e M with
  | nx e M => rfl
  | rt d M => rfl
  | bad => rfl
  | exc k fs e1 M1 =>
    show Ws (if _ then _ else _) N R XS = if _ then _ else _
    by_cases h1 : G.isc k = true
    · rw [if_pos h1, if_pos h1]
      by_cases h2 : G.sub k c = true
      · rw [if_pos h2, if_pos h2]
        cases exS G cl suite (match nm with | some _ => some (k, fs) | none => none) (match nm with | some i => e1.set i none | none => e1) M1 <;> rfl
      · rw [if_neg h2, if_neg h2]
        rfl
    · rw [if_neg h1, if_neg h1]
      rfl
theorem isx_eq {G : Gl} {k c : Nat} (h : G.isc c = true) : isxE G (some (k, [])) c M = .ok (.bl (G.sub k c)) M := by
  show (if G.isc c = true then _ else _) = _
  rw [if_pos h]
/-- a for: the invariant by the turn -/
theorem ws_for {s : Src} {tg : List Nat} {sole : Bool} {body : Env → Store → Rs} {xs : List D} (I : Nat → Env → Store → Prop) (h0 : I 0 e M)
    (hs : ∀ i x e M, xs[i]? = some x → I i e M → s.stands M = true ∧ ∃ e', bindT tg sole x e = some e' ∧ Ws (body e' M) (I (i + 1)) R XS) (he : ∀ e M, I xs.length e M → s.stands M = true ∧ N e M) : Ws (forL s tg sole body xs e M) N R XS := by
  induction xs generalizing I e M with
  | nil =>
    obtain ⟨h1, h2⟩ := he e M h0
    unfold forL
    rw [if_pos h1]
    exact h2
  | cons x r ih =>
    obtain ⟨h1, e', h2, h3⟩ := hs 0 x e M rfl h0
    unfold forL
    rw [if_pos h1, h2]
    show Ws ((body e' M).andThen _) N R XS
    rw [ws_then]
    exact h3.mono (fun e M h => ih (fun i => I (i + 1)) h (fun i y e M hy hi => hs (i + 1) y e M hy hi) fun e M hi => he e M hi) (fun _ _ h => h) fun _ _ _ _ h => h
/-- a comprehension -/
theorem wp_comp {s : Src} {tg : List Nat} {sole : Bool} {tt : Env → Store → Out Bool} {te : Env → Store → Out D} {xs acc : List D} {Q : List D → Store → Prop} (I : Nat → List D → Store → Prop) (h0 : I 0 acc M)
    (hs : ∀ i x acc M, xs[i]? = some x → I i acc M → s.stands M = true ∧ ∃ e', bindT tg sole x e = some e' ∧ Wp (tt e' M) (fun b M1 => if b = true then Wp (te e' M1) (fun d M2 => acc.length < sizeLine ∧ I (i + 1) (acc ++ [d]) M2) (fun _ _ _ => False) else I (i + 1) acc M1) (fun _ _ _ => False))
    (he : ∀ acc M, I xs.length acc M → s.stands M = true ∧ Q acc M) : Wp (compL s tg sole e tt te xs acc M) Q X := by
  induction xs generalizing I acc M with
  | nil =>
    obtain ⟨h1, h2⟩ := he acc M h0
    unfold compL
    rw [if_pos h1]
    exact h2
  | cons x r ih =>
    obtain ⟨h1, e', h2, h3⟩ := hs 0 x acc M rfl h0
    unfold compL
    rw [if_pos h1, h2]
    show Wp (((tt e' M).nox).bind _) Q X
    rw [wp_bind, wp_nox]
    have h3 := h3
    revert h3
    cases tt e' M with
    | bad => exact fun h => h
    | exc c fs M => exact fun h => h
    | ok b M1 =>
      intro h3
      have h3 : if b = true then Wp (te e' M1) (fun d M2 => acc.length < sizeLine ∧ I 1 (acc ++ [d]) M2) (fun _ _ _ => False) else I 1 acc M1 := h3
      show Wp (if b = true then _ else _) Q X
      cases b with
      | false => exact ih (fun i => I (i + 1)) h3 (fun i y acc M hy hi => hs (i + 1) y acc M hy hi) fun acc M hi => he acc M hi
      | true =>
        have h3 : Wp (te e' M1) (fun d M2 => acc.length < sizeLine ∧ I 1 (acc ++ [d]) M2) (fun _ _ _ => False) := h3
        show Wp (((te e' M1).nox).bind _) Q X
        rw [wp_bind, wp_nox]
        revert h3
        cases te e' M1 with
        | bad => exact fun h => h
        | exc c fs M => exact fun h => h
        | ok d M2 =>
          intro h3
          show Wp (if acc.length < sizeLine then _ else _) Q X
          rw [if_pos h3.1]
          exact ih (fun i => I (i + 1)) h3.2 (fun i y acc M hy hi => hs (i + 1) y acc M hy hi) fun acc M hi => he acc M hi
end
/-! ### a call's end -/
open Classical in
theorem oldOk_app (M l : Store) : oldOk M (M ++ l) = true := by
  unfold oldOk
  refine decide_eq_true ⟨by simp, fun i o hi h => .inl ?_⟩
  rw [List.getElem?_append_left hi] at h
  exact h
mutual
theorem und_locs (n : Nat) : ∀ d : D, d.und 0 = true → d.locs n = []
  | .non, _ => rfl
  | .bl _, _ => rfl
  | .int _, _ => rfl
  | .str _, _ => rfl
  | .loc k, h => by simp [D.und] at h
  | .rol _, _ => rfl
  | .ktp _, _ => rfl
  | .tup ds, h => by
    simp only [D.locs]
    exact undL_locs n ds (by simpa [D.und] using h)
theorem undL_locs (n : Nat) : ∀ ds : List D, undL 0 ds = true → locsL n ds = []
  | [], _ => rfl
  | d :: ds, h => by
    obtain ⟨h1, h2⟩ := Bool.and_eq_true_iff.mp (show (d.und 0 && undL 0 ds) = true from h)
    simp only [locsL, und_locs n d h1, undL_locs n ds h2, List.append_nil]
end
mutual
theorem und_ren (f : Nat → Nat) : ∀ d : D, d.und 0 = true → d.ren f = d
  | .non, _ => rfl
  | .bl _, _ => rfl
  | .int _, _ => rfl
  | .str _, _ => rfl
  | .loc k, h => by simp [D.und] at h
  | .rol _, _ => rfl
  | .ktp _, _ => rfl
  | .tup ds, h => by
    simp only [D.ren]
    rw [undL_ren f ds (by simpa [D.und] using h)]
theorem undL_ren (f : Nat → Nat) : ∀ ds : List D, undL 0 ds = true → renL f ds = ds
  | [], _ => rfl
  | d :: ds, h => by
    obtain ⟨h1, h2⟩ := Bool.and_eq_true_iff.mp (show (d.und 0 && undL 0 ds) = true from h)
    simp only [renL, und_ren f d h1, undL_ren f ds h2]
end
theorem grow_nil (n : Nat) (M : Store) : grow n M [] = [] := Eq.trans rfl rfl
/-- a value without places -/
theorem fin_flat {M l : Store} {d : D} (h : d.und 0 = true) : fin M d (M ++ l) = .ok d M := by
  unfold fin
  rw [if_pos (oldOk_app M l), und_locs _ d h]
  have e : grow M.length (M ++ l) (grow M.length (M ++ l) ([] : List Nat)) = [] := rfl
  simp [e, keepsR, und_ren _ d h]
theorem fin_flat0 {M : Store} {d : D} (h : d.und 0 = true) : fin M d M = .ok d M := by
  have := fin_flat (M := M) (l := []) h
  rwa [List.append_nil] at this
/-- a new list of values without places -/
theorem fin_list {M l : Store} {k : Nat} {xs : List D} (hk : l[k]? = some (.lst xs)) (h : undL 0 xs = true) : fin M (.loc (M.length + k)) (M ++ l) = .ok (.loc M.length) (M ++ [.lst xs]) := by
  have g : (M ++ l)[M.length + k]? = some (.lst xs) := by
    rw [List.getElem?_append_right (by omega), Nat.add_sub_cancel_left]
    exact hk
  have e1 : (D.loc (M.length + k)).locs M.length = [M.length + k] := by simp [D.locs]
  have e2 : grow M.length (M ++ l) [M.length + k] = [M.length + k] := by
    unfold grow
    simp only [List.flatMap_cons, List.flatMap_nil, g, Ob.locs, undL_locs _ xs h, List.append_nil]
    rfl
  unfold fin
  rw [if_pos (oldOk_app M l), e1]
  show (if (keepsR M.length (M ++ l) (grow _ _ (grow _ _ ([M.length + k].eraseDups))) && _) = true then _ else _) = _
  rw [show [M.length + k].eraseDups = [M.length + k] from rfl, e2, e2]
  have e3 : renF M.length [M.length + k] (M.length + k) = M.length := by
    unfold renF
    rw [if_neg (by omega)]
    simp
  simp [keepsR, g, Ob.locs, undL_locs _ xs h, Ob.ren, undL_ren _ xs h, D.ren, e3]
theorem undL_ints (xs : List Int) : undL 0 (xs.map D.int) = true := by
  induction xs with
  | nil => rfl
  | cons x r ih => exact Bool.and_eq_true_iff.mpr ⟨rfl, ih⟩
/-! ### reading a store -/
theorem get_new (M : Store) (l : Store) (k : Nat) : (M ++ l)[M.length + k]? = l[k]? := by
  rw [List.getElem?_append_right (by omega), Nat.add_sub_cancel_left]
theorem get_new0 (M : Store) (l : Store) : (M ++ l)[M.length]? = l[0]? := get_new M l 0
theorem set_new (M : Store) (l : Store) (k : Nat) (o : Ob) : (M ++ l).set (M.length + k) o = M ++ l.set k o := by
  rw [List.set_append_right _ _ (by omega), Nat.add_sub_cancel_left]
theorem set_new0 (M : Store) (l : Store) (o : Ob) : (M ++ l).set M.length o = M ++ l.set 0 o := set_new M l 0 o
theorem get_old {M l : Store} {n : Nat} {o : Ob} (h : M[n]? = some o) : (M ++ l)[n]? = some o := by
  rw [List.getElem?_append_left (List.getElem?_eq_some_iff.mp h).1]
  exact h
theorem lstAt_eq {M : Store} {n : Nat} {xs : List D} : lstAt M n = some xs ↔ M[n]? = some (.lst xs) := by
  unfold lstAt
  constructor
  · intro h
    split at h
    · rename_i ys e
      cases h
      exact e
    · cases h
  · intro h
    rw [h]
open Classical in
theorem stands_its (xs : List D) (M : Store) : (Src.its xs).stands M = true := Eq.trans rfl rfl
open Classical in
theorem stands_lst {n : Nat} {xs : List D} {M : Store} (h : M[n]? = some (.lst xs)) : (Src.lst n xs).stands M = true := by
  unfold Src.stands
  exact decide_eq_true h
theorem mir_of {o : Out D} (h : Wp o (fun d _ => d = .bl true) (fun _ _ _ => False)) : ∃ M, o = .ok (.bl true) M := by
  cases o with
  | ok d M =>
    obtain rfl : d = .bl true := h
    exact ⟨M, rfl⟩
  | exc c fs M => exact (show False from h).elim
  | bad => exact (show False from h).elim
theorem sizeLine_val : sizeLine = 16777216 := PySem.sizeLine_eq
end Dv
end

section
set_option Elab.async false
set_option autoImplicit false
set_option linter.all false
set_option maxRecDepth 100000
set_option maxHeartbeats 1000000
/-! DvV: more that helps to compute; the first defs. -/
namespace Dv
open PySem L2
/-! ### slots -/
theorem varE_z (a : D) (e : Env) (M : Store) : varE 0 (some a :: e) M = .ok a M := Eq.trans rfl rfl
theorem varE_s (i : Nat) (a : Option D) (e : Env) (M : Store) : varE (i + 1) (a :: e) M = varE i e M := Eq.trans rfl rfl
theorem wipeD_nil (e : Env) : wipeD e [] = e := Eq.trans rfl rfl
theorem wipeD_cons (e : Env) (v : Nat) (vs : List Nat) : wipeD e (v :: vs) = (wipeD e vs).set v none := Eq.trans rfl rfl
theorem bindT_one (i : Nat) (d : D) (e : Env) : bindT [i] true d e = some (e.set i (some d)) := Eq.trans rfl rfl
/-! ### operators -/
section
variable {M : Store}
theorem bin_add (i j : Int) : binE .add M (.int i) (.int j) = .ok (.int (i + j)) M := Eq.trans rfl rfl
theorem bin_sub (i j : Int) : binE .sub M (.int i) (.int j) = .ok (.int (i - j)) M := Eq.trans rfl rfl
theorem bin_mul (i j : Int) : binE .mul M (.int i) (.int j) = if (-18446744073709551616 < i ∧ i < 18446744073709551616) ∨ (-18446744073709551616 < j ∧ j < 18446744073709551616) ∨ i.natAbs.log2 + j.natAbs.log2 < 1000000 then .ok (.int (i * j)) M else .bad := Eq.trans rfl rfl
theorem bin_fdiv (i j : Int) : binE .fdiv M (.int i) (.int j) = if 0 < j ∧ j < 18446744073709551616 then .ok (.int (i / j)) M else .bad := Eq.trans rfl rfl
theorem bin_mod (i j : Int) : binE .mod M (.int i) (.int j) = if 0 < j then .ok (.int (i % j)) M else .bad := Eq.trans rfl rfl
theorem bin_pow (i j : Int) : binE .pow M (.int i) (.int j) = if 0 ≤ j ∧ j ≤ 1000000 ∧ -18446744073709551616 < i ∧ i < 18446744073709551616 then .ok (.int (i ^ j.toNat)) M else .bad := Eq.trans rfl rfl
theorem neg_int (i : Int) : negE M (.int i) = .ok (.int (-i)) M := Eq.trans rfl rfl
theorem cmp_lt (i j : Int) : cmpE .lt M (.int i) (.int j) = some (decide (i < j)) := Eq.trans rfl rfl
theorem cmp_le (i j : Int) : cmpE .le M (.int i) (.int j) = some (decide (i ≤ j)) := Eq.trans rfl rfl
theorem cmp_gt (i j : Int) : cmpE .gt M (.int i) (.int j) = some (decide (j < i)) := Eq.trans rfl rfl
theorem cmp_ge (i j : Int) : cmpE .ge M (.int i) (.int j) = some (decide (j ≤ i)) := Eq.trans rfl rfl
theorem cmp_eq (i j : Int) : cmpE .eq M (.int i) (.int j) = some (decide (i = j)) := by
  show some (i == j) = some (decide (i = j))
  congr 1
theorem cmp_ne (i j : Int) : cmpE .ne M (.int i) (.int j) = some (!decide (i = j)) := by
  show some (!(i == j)) = some (!decide (i = j))
  congr 1
theorem len_rol (xs : List Int) : biE .len M [.rol xs] = .ok (.int xs.length) M := by
  show Out.ok (D.int (xs.map D.int).length) M = _
  rw [List.length_map]
theorem len_loc {n : Nat} {xs : List D} (h : M[n]? = some (.lst xs)) : biE .len M [.loc n] = .ok (.int xs.length) M := by
  show (match lstAt M n with | some xs => Out.ok (D.int xs.length) M | none => .bad) = _
  rw [lstAt_eq.mpr h]
theorem abs_int (i : Int) : biE .abs M [.int i] = .ok (.int (if i < 0 then -i else i)) M := Eq.trans rfl rfl
theorem int_int (i : Int) : biE .int M [.int i] = .ok (.int i) M := Eq.trans rfl rfl
theorem rng1 (n : Int) : rngOf M [.int n] = if -4611686018427387904 ≤ n ∧ n < 4611686018427387904 then .ok (.its ((List.range n.toNat).map fun i => .int (i : Nat))) M else .bad := Eq.trans rfl rfl
theorem its_items (xs : List D) : (Src.its xs).items = xs := Eq.trans rfl rfl
theorem lst_items (n : Nat) (xs : List D) : (Src.lst n xs).items = xs := Eq.trans rfl rfl
theorem app_new (M0 : Store) (xs : List D) (x : D) (h : xs.length < sizeLine) : bmE .append (M0 ++ [.lst xs]) (.loc M0.length) [x] = .ok .non (M0 ++ [.lst (xs ++ [x])]) := by
  show (match (M0 ++ [Ob.lst xs])[M0.length]? with | some (.lst xs) => _ | _ => _) = _
  rw [get_new0]
  show (if xs.length < sizeLine then _ else _) = _
  rw [if_pos h, set_new0]
  rfl
theorem appTy_new (M0 : Store) (xs : List D) : bmTy .append (M0 ++ [.lst xs]) (.loc M0.length) = true := by
  show (lstAt (M0 ++ [Ob.lst xs]) M0.length).isSome = true
  rw [lstAt_eq.mpr (get_new0 M0 [.lst xs])]
  rfl
theorem range_get {n i : Nat} {x : D} (h : ((List.range n).map fun (i : Nat) => D.int (i : Int))[i]? = some x) : i < n ∧ x = .int i := by
  rw [List.getElem?_map] at h
  cases q : (List.range n)[i]? with
  | none => rw [q] at h; cases h
  | some j =>
    rw [q] at h
    cases h
    obtain ⟨h1, h2⟩ := List.getElem?_eq_some_iff.mp q
    rw [List.getElem_range] at h2
    rw [List.length_range] at h1
    subst h2
    exact ⟨h1, rfl⟩
theorem range_len (n : Nat) : ((List.range n).map fun (i : Nat) => D.int (i : Int)).length = n := by simp
end
/-! ### calls -/
theorem wp_call {G : Gl} {P : Nat → Option Def} {n f : Nat} {d : Def} {vs : List D} {M : Store} {Q : D → Store → Prop} {X : Xn} (h : P f = some d) (l : vs.length = d.np)
    (w : Ws (exS G (callN G P n) d.body none (vs.map some ++ List.replicate (d.ns - vs.length) none) M) (fun _ M1 => Wp (fin M .non M1) Q X) (fun v M1 => Wp (fin M v M1) Q X) (fun c fs _ M1 => oldOk M M1 = true ∧ (fs.all fun kv => kv.2.und 0) = true ∧ X c fs (M1.take M.length))) : Wp (callN G P (n + 1) f vs M) Q X := by
  rw [call_eq h l]
  revert w
  cases exS G (callN G P n) d.body none (vs.map some ++ List.replicate (d.ns - vs.length) none) M with
  | nx e M1 => exact fun w => w
  | rt v M1 => exact fun w => w
  | bad => exact fun w => w
  | exc c fs e M1 =>
    intro w
    obtain ⟨w1, w2, w3⟩ := w
    show Wp (if _ then _ else _) Q X
    rw [if_pos ⟨w1, w2⟩]
    exact w3
local macro_rules | `(tactic| walk_at "dv") => `(tactic| simp only [ev_nil_a, ev_nil_p, ev_nil_c, ev_cons_a, ev_rng_i, ev_var, ev_non, ev_bl, ev_int, ev_str, ev_glb, ev_bin, ev_neg, ev_cmp, ev_chn, ev_and, ev_or, ev_not, ev_ife, ev_tup, ev_lst, ev_dnl, ev_idx, ev_slc, ev_fld, ev_cal, ev_mak, ev_mth, ev_bi, ev_bm, ev_isi, ev_isx, ev_xfd, ev_cmp1, ev_and_t, ev_or_t, ev_not_t, ev_and_c, ev_or_c, ev_not_c, ev_var_t, ev_var_c, ev_var_p, ev_var_i, ev_non_t, ev_non_c, ev_non_p, ev_non_i, ev_bl_t, ev_bl_c, ev_bl_p, ev_bl_i, ev_int_t, ev_int_c, ev_int_p, ev_int_i, ev_str_t, ev_str_c, ev_str_p, ev_str_i, ev_glb_t, ev_glb_c, ev_glb_p, ev_glb_i, ev_bin_t, ev_bin_c, ev_bin_p, ev_bin_i, ev_neg_t, ev_neg_c, ev_neg_p, ev_neg_i, ev_cmp_t, ev_cmp_c, ev_cmp_p, ev_cmp_i, ev_chn_t, ev_chn_c, ev_chn_p, ev_chn_i, ev_tup_t, ev_tup_c, ev_tup_p, ev_tup_i, ev_lst_t, ev_lst_c, ev_lst_p, ev_lst_i, ev_idx_t, ev_idx_c, ev_idx_p, ev_idx_i, ev_slc_t, ev_slc_c, ev_slc_p, ev_slc_i, ev_fld_t, ev_fld_c, ev_fld_p, ev_fld_i, ev_cal_t, ev_cal_c, ev_cal_p, ev_cal_i, ev_mak_t, ev_mak_c, ev_mak_p, ev_mak_i, ev_mth_t, ev_mth_c, ev_mth_p, ev_mth_i, ev_bi_t, ev_bi_c, ev_bi_p, ev_bi_i, ev_bm_t, ev_bm_c, ev_bm_p, ev_bm_i, ev_isi_t, ev_isi_c, ev_isi_p, ev_isi_i, ev_isx_t, ev_isx_c, ev_isx_p, ev_isx_i, ev_xfd_t, ev_xfd_c, ev_xfd_p, ev_xfd_i, ev_cmp1_t, ev_cmp1_c, ev_cmp1_p, ev_cmp1_i, ofO_some, ofO_none, truD_bl, truD_int, truD_non, andE_tt, andE_ff, orE_tt, orE_ff, ex_nil, ex_cons, ex_asg, ex_ex, ex_ret, ex_retN, ex_pas, ex_ite, ex_for, ex_whl, ex_rai, asg_nm, asg_sub, asg_att, wp_ok, wp_exc, wp_bad, wp_bind, wp_if, wp_nox, wp_ofO, ws_tri, ws_nx, ws_rt, ws_exc, ws_bad, ws_run, ws_then, ws_if, varE_z, varE_s, wipeD_nil, wipeD_cons, bindT_one, bin_add, bin_sub, bin_mul, bin_fdiv, bin_mod, bin_pow, neg_int, cmp_lt, cmp_le, cmp_gt, cmp_ge, cmp_eq, cmp_ne, len_rol, int_int, abs_int, rng1, its_items, lst_items, List.map_cons, List.map_nil, List.replicate_succ, List.replicate_zero, List.cons_append, List.nil_append, List.set_cons_zero, List.set_cons_succ, List.length_cons, List.length_nil, Option.some.injEq, exists_eq_left', decide_eq_true_eq, Nat.reducePow, Int.reducePow, Nat.reduceLT, Nat.reduceLeDiff, Int.reduceLT, Int.reduceLE, Int.reduceNeg, Int.reduceToNat, true_or, or_true, true_and, and_true, if_true, if_false, Bool.false_eq_true, Bool.not_true, Bool.not_false, Bool.not_eq_true', Bool.true_eq_false, reduceCtorEq, decide_eq_false_iff_not, not_true, not_false_iff, Nat.reduceAdd, Nat.reduceSub])
local macro_rules | `(tactic| walk_at "dvh") => `(tactic| simp only [ev_nil_a, ev_nil_p, ev_nil_c, ev_cons_a, ev_rng_i, ev_var, ev_non, ev_bl, ev_int, ev_str, ev_glb, ev_bin, ev_neg, ev_cmp, ev_chn, ev_and, ev_or, ev_not, ev_ife, ev_tup, ev_lst, ev_dnl, ev_idx, ev_slc, ev_fld, ev_cal, ev_mak, ev_mth, ev_bi, ev_bm, ev_isi, ev_isx, ev_xfd, ev_cmp1, ev_and_t, ev_or_t, ev_not_t, ev_and_c, ev_or_c, ev_not_c, ev_var_t, ev_var_c, ev_var_p, ev_var_i, ev_non_t, ev_non_c, ev_non_p, ev_non_i, ev_bl_t, ev_bl_c, ev_bl_p, ev_bl_i, ev_int_t, ev_int_c, ev_int_p, ev_int_i, ev_str_t, ev_str_c, ev_str_p, ev_str_i, ev_glb_t, ev_glb_c, ev_glb_p, ev_glb_i, ev_bin_t, ev_bin_c, ev_bin_p, ev_bin_i, ev_neg_t, ev_neg_c, ev_neg_p, ev_neg_i, ev_cmp_t, ev_cmp_c, ev_cmp_p, ev_cmp_i, ev_chn_t, ev_chn_c, ev_chn_p, ev_chn_i, ev_tup_t, ev_tup_c, ev_tup_p, ev_tup_i, ev_lst_t, ev_lst_c, ev_lst_p, ev_lst_i, ev_idx_t, ev_idx_c, ev_idx_p, ev_idx_i, ev_slc_t, ev_slc_c, ev_slc_p, ev_slc_i, ev_fld_t, ev_fld_c, ev_fld_p, ev_fld_i, ev_cal_t, ev_cal_c, ev_cal_p, ev_cal_i, ev_mak_t, ev_mak_c, ev_mak_p, ev_mak_i, ev_mth_t, ev_mth_c, ev_mth_p, ev_mth_i, ev_bi_t, ev_bi_c, ev_bi_p, ev_bi_i, ev_bm_t, ev_bm_c, ev_bm_p, ev_bm_i, ev_isi_t, ev_isi_c, ev_isi_p, ev_isi_i, ev_isx_t, ev_isx_c, ev_isx_p, ev_isx_i, ev_xfd_t, ev_xfd_c, ev_xfd_p, ev_xfd_i, ev_cmp1_t, ev_cmp1_c, ev_cmp1_p, ev_cmp1_i, ofO_some, ofO_none, truD_bl, truD_int, truD_non, andE_tt, andE_ff, orE_tt, orE_ff, ex_nil, ex_cons, ex_asg, ex_ex, ex_ret, ex_retN, ex_pas, ex_ite, ex_for, ex_whl, ex_rai, asg_nm, asg_sub, asg_att, wp_ok, wp_exc, wp_bad, wp_bind, wp_if, wp_nox, wp_ofO, ws_tri, ws_nx, ws_rt, ws_exc, ws_bad, ws_run, ws_then, ws_if, varE_z, varE_s, wipeD_nil, wipeD_cons, bindT_one, bin_add, bin_sub, bin_mul, bin_fdiv, bin_mod, bin_pow, neg_int, cmp_lt, cmp_le, cmp_gt, cmp_ge, cmp_eq, cmp_ne, len_rol, int_int, abs_int, rng1, its_items, lst_items, List.map_cons, List.map_nil, List.replicate_succ, List.replicate_zero, List.cons_append, List.nil_append, List.set_cons_zero, List.set_cons_succ, List.length_cons, List.length_nil, Option.some.injEq, exists_eq_left', decide_eq_true_eq, Nat.reducePow, Int.reducePow, Nat.reduceLT, Nat.reduceLeDiff, Int.reduceLT, Int.reduceLE, Int.reduceNeg, Int.reduceToNat, true_or, or_true, true_and, and_true, if_true, if_false, Bool.false_eq_true, Bool.not_true, Bool.not_false, Bool.not_eq_true', Bool.true_eq_false, reduceCtorEq, decide_eq_false_iff_not, not_true, not_false_iff, Nat.reduceAdd, Nat.reduceSub, *])
local macro_rules | `(tactic| walk_at "st") => `(tactic| simp only [ev_nil_a, ev_nil_p, ev_nil_c, ev_cons_a, ev_rng_i, ev_var, ev_non, ev_bl, ev_int, ev_str, ev_glb, ev_bin, ev_neg, ev_cmp, ev_chn, ev_and, ev_or, ev_not, ev_ife, ev_tup, ev_lst, ev_dnl, ev_idx, ev_slc, ev_fld, ev_cal, ev_mak, ev_mth, ev_bi, ev_bm, ev_isi, ev_isx, ev_xfd, ev_cmp1, ev_and_t, ev_or_t, ev_not_t, ev_and_c, ev_or_c, ev_not_c, ev_var_t, ev_var_c, ev_var_p, ev_var_i, ev_non_t, ev_non_c, ev_non_p, ev_non_i, ev_bl_t, ev_bl_c, ev_bl_p, ev_bl_i, ev_int_t, ev_int_c, ev_int_p, ev_int_i, ev_str_t, ev_str_c, ev_str_p, ev_str_i, ev_glb_t, ev_glb_c, ev_glb_p, ev_glb_i, ev_bin_t, ev_bin_c, ev_bin_p, ev_bin_i, ev_neg_t, ev_neg_c, ev_neg_p, ev_neg_i, ev_cmp_t, ev_cmp_c, ev_cmp_p, ev_cmp_i, ev_chn_t, ev_chn_c, ev_chn_p, ev_chn_i, ev_tup_t, ev_tup_c, ev_tup_p, ev_tup_i, ev_lst_t, ev_lst_c, ev_lst_p, ev_lst_i, ev_idx_t, ev_idx_c, ev_idx_p, ev_idx_i, ev_slc_t, ev_slc_c, ev_slc_p, ev_slc_i, ev_fld_t, ev_fld_c, ev_fld_p, ev_fld_i, ev_cal_t, ev_cal_c, ev_cal_p, ev_cal_i, ev_mak_t, ev_mak_c, ev_mak_p, ev_mak_i, ev_mth_t, ev_mth_c, ev_mth_p, ev_mth_i, ev_bi_t, ev_bi_c, ev_bi_p, ev_bi_i, ev_bm_t, ev_bm_c, ev_bm_p, ev_bm_i, ev_isi_t, ev_isi_c, ev_isi_p, ev_isi_i, ev_isx_t, ev_isx_c, ev_isx_p, ev_isx_i, ev_xfd_t, ev_xfd_c, ev_xfd_p, ev_xfd_i, ev_cmp1_t, ev_cmp1_c, ev_cmp1_p, ev_cmp1_i, ofO_some, ofO_none, truD_bl, truD_int, truD_non, andE_tt, andE_ff, orE_tt, orE_ff, ex_nil, ex_asg, ex_ex, ex_ret, ex_retN, ex_pas, ex_ite, ex_for, ex_whl, ex_rai, asg_nm, asg_sub, asg_att, wp_ok, wp_exc, wp_bad, wp_bind, wp_if, wp_nox, wp_ofO, ws_tri, ws_nx, ws_rt, ws_exc, ws_bad, ws_run, ws_then, ws_if, varE_z, varE_s, wipeD_nil, wipeD_cons, bindT_one, bin_add, bin_sub, bin_mul, bin_fdiv, bin_mod, bin_pow, neg_int, cmp_lt, cmp_le, cmp_gt, cmp_ge, cmp_eq, cmp_ne, len_rol, int_int, abs_int, rng1, its_items, lst_items, List.map_cons, List.map_nil, List.replicate_succ, List.replicate_zero, List.cons_append, List.nil_append, List.set_cons_zero, List.set_cons_succ, List.length_cons, List.length_nil, Option.some.injEq, exists_eq_left', decide_eq_true_eq, Nat.reducePow, Int.reducePow, Nat.reduceLT, Nat.reduceLeDiff, Int.reduceLT, Int.reduceLE, Int.reduceNeg, Int.reduceToNat, true_or, or_true, true_and, and_true, if_true, if_false, Bool.false_eq_true, Bool.not_true, Bool.not_false, Bool.not_eq_true', Bool.true_eq_false, reduceCtorEq, decide_eq_false_iff_not, not_true, not_false_iff, Nat.reduceAdd, Nat.reduceSub, *])

/-- a row of numbers below a thousand -/
def Row (r : List Int) (n : Nat) : Prop := r.length = n ∧ ∀ x ∈ r, 0 ≤ x ∧ x < 1000
theorem lstG_ok {M : Store} {xs : List D} (h : xs.length ≤ 1000000) : lstG M xs = .ok (.loc M.length) (M ++ [.lst xs]) := by
  unfold lstG
  rw [if_pos (by rw [sizeLine_val]; omega)]
  rfl
theorem atI_nat {α : Type} (xs : List α) (k : Nat) : atI xs (k : Int) = xs[k]? := by
  unfold atI ixN
  rw [if_pos (by omega)]
  by_cases h : k < xs.length
  · rw [if_pos (by omega)]
    simp
  · rw [if_neg (by omega), List.getElem?_eq_none (by omega)]
    rfl
theorem truD_lst {M : Store} {n : Nat} {xs : List D} (h : M[n]? = some (.lst xs)) : truD M (.loc n) = some (!xs.isEmpty) := by
  unfold truD
  simp only [h]
theorem srcOf_lst {M : Store} {n : Nat} {xs : List D} (h : M[n]? = some (.lst xs)) : srcOf M (.loc n) = .ok (.lst n xs) M := by
  unfold srcOf
  simp only [lstAt_eq.mpr h]
/-! ends as equations -/
theorem eq_of_wp {α : Type} {o : Out α} {x : α} {M : Store} (h : Wp o (fun a M1 => a = x ∧ M1 = M) (fun _ _ _ => False)) : o = .ok x M := by
  cases o with
  | ok a M1 =>
    obtain ⟨h1, h2⟩ := (show a = x ∧ M1 = M from h)
    rw [h1, h2]
  | exc c fs M1 => exact (show False from h).elim
  | bad => exact (show False from h).elim
abbrev NoX : Xn := fun _ _ _ => False
theorem comp_map {s : Src} {tg : List Nat} {sole : Bool} {e : Env} {tt : Env → Store → Out Bool} {te : Env → Store → Out D} {M : Store} (f : D → D) (hs : s.stands M = true) :
    ∀ {xs acc : List D}, (∀ x ∈ xs, ∃ e', bindT tg sole x e = some e' ∧ Wp (tt e' M) (fun b M1 => b = true ∧ M1 = M) NoX ∧ Wp (te e' M) (fun d M1 => d = f x ∧ M1 = M) NoX) → acc.length + xs.length ≤ 1000000 →
      compL s tg sole e tt te xs acc M = .ok (acc ++ xs.map f) M
  | [], acc, _, _ => by
    unfold compL
    rw [if_pos hs, List.map_nil, List.append_nil]
  | x :: r, acc, h, hl => by
    obtain ⟨e', h1, h2, h3⟩ := h x List.mem_cons_self
    unfold compL
    rw [if_pos hs, h1]
    show ((tt e' M).nox.bind _) = _
    rw [eq_of_wp h2]
    show ((te e' M).nox.bind _) = _
    rw [eq_of_wp h3]
    show (if acc.length < sizeLine then _ else _) = _
    rw [List.length_cons] at hl
    rw [if_pos (by rw [sizeLine_val]; omega), comp_map f hs (fun y hy => h y (List.mem_cons_of_mem _ hy)) (by rw [List.length_append]; simp; omega)]
    simp
/-- [f(x) for x in xs], nothing laid -/
theorem comp_g {α : Type} (g f : α → D) {s : Src} {i : Nat} {e : Env} {te : Env → Store → Out D} {M : Store} {xs : List α} (hs : s.stands M = true) (hl : xs.length ≤ 1000000)
    (h : ∀ x ∈ xs, Wp (te (e.set i (some (g x))) M) (fun d M1 => d = f x ∧ M1 = M) NoX) : compL s [i] true e (fun _ M' => .ok true M') te (xs.map g) [] M = .ok (xs.map f) M := by
  have key : ∀ (l : List α) (acc : List D), (∀ x ∈ l, x ∈ xs) → acc.length + l.length ≤ 1000000 → compL s [i] true e (fun _ M' => .ok true M') te (l.map g) acc M = .ok (acc ++ l.map f) M := by
    intro l
    induction l with
    | nil =>
      intro acc _ _
      rw [List.map_nil]
      unfold compL
      rw [if_pos hs, List.map_nil, List.append_nil]
    | cons x r ih =>
      intro acc hm hl
      rw [List.map_cons]
      unfold compL
      rw [if_pos hs, bindT_one]
      show (Out.bind _ _) = _
      have e1 := eq_of_wp (h x (hm x List.mem_cons_self))
      show ((te (e.set i (some (g x))) M).nox.bind _) = _
      rw [e1]
      show (if acc.length < sizeLine then _ else _) = _
      rw [List.length_cons] at hl
      rw [if_pos (by rw [sizeLine_val]; omega), ih (acc ++ [f x]) (fun y hy => hm y (List.mem_cons_of_mem _ hy)) (by rw [List.length_append, List.length_singleton]; omega)]
      simp
  have := key xs [] (fun _ h => h) (by simpa using hl)
  rwa [List.nil_append] at this
/-! lists of ints -/
theorem intsOf_map : ∀ xs : List Int, intsOf (xs.map D.int) = some xs
  | [] => rfl
  | x :: r => by
    show (intsOf (r.map D.int)).map (x :: ·) = _
    rw [intsOf_map r]
    rfl
section
variable {M : Store} {n : Nat} {xs : List Int}
theorem ints_at (h : M[n]? = some (.lst (xs.map D.int))) : (lstAt M n).bind intsOf = some xs := by
  rw [lstAt_eq.mpr h]
  exact intsOf_map xs
theorem max_ints {m : Int} (h : M[n]? = some (.lst (xs.map D.int))) (e : maxI xs = some m) : biE .max M [.loc n] = .ok (.int m) M := by
  show (match (lstAt M n).bind intsOf with | some is => ofO ((maxI is).map D.int) M | none => .bad) = _
  rw [ints_at h]
  show ofO ((maxI xs).map D.int) M = _
  rw [e]
  rfl
theorem min_ints {m : Int} (h : M[n]? = some (.lst (xs.map D.int))) (e : minI xs = some m) : biE .min M [.loc n] = .ok (.int m) M := by
  show (match (lstAt M n).bind intsOf with | some is => ofO ((minI is).map D.int) M | none => .bad) = _
  rw [ints_at h]
  show ofO ((minI xs).map D.int) M = _
  rw [e]
  rfl
theorem sum_ints (h : M[n]? = some (.lst (xs.map D.int))) : biE .sum M [.loc n] = .ok (.int xs.sum) M := by
  show (match (lstAt M n).bind intsOf with | some is => Out.ok (D.int is.sum) M | none => .bad) = _
  rw [ints_at h]
theorem len_ints (h : M[n]? = some (.lst (xs.map D.int))) : biE .len M [.loc n] = .ok (.int xs.length) M := by
  rw [len_loc h, List.length_map]
theorem set_ints {i v : Int} (h : M[n]? = some (.lst (xs.map D.int))) (h0 : 0 ≤ i) (h1 : i < xs.length) : setE M (.loc n) (.int i) (.int v) = .ok () (M.set n (.lst ((xs.set i.toNat v).map D.int))) := by
  unfold setE
  simp only [h]
  show (match ixN (xs.map D.int).length i with | some j => Out.ok () (M.set n (.lst ((xs.map D.int).set j (.int v)))) | none => .bad) = _
  have e : ixN (xs.map D.int).length i = some i.toNat := by
    unfold ixN
    rw [if_pos h0, if_pos (by rw [List.length_map]; exact h1)]
  rw [e, List.map_set]
end
theorem idx_lst {M : Store} {a : Nat} {xs : List D} {k : Nat} {d : D} (h : M[a]? = some (.lst xs)) (e : xs[k]? = some d) : idxE M (.loc a) (.int (k : Int)) = some d := by
  show (match M[a]? with | some (.lst xs) => _ | some (.dct kvs) => _ | some (.dtt kvs) => _ | _ => none) = _
  rw [h]
  show atI xs (k : Int) = _
  rw [atI_nat, e]
theorem idx_pair1 (M : Store) (p : Int × Int) : idxE M (pairD p) (.int 1) = some (.int p.2) := Eq.trans rfl rfl
theorem app_get {M : Store} {n : Nat} {xs : List D} (h : M[n]? = some (.lst xs)) (hl : xs.length < sizeLine) (x : D) : bmE .append M (.loc n) [x] = .ok .non (M.set n (.lst (xs ++ [x]))) := by
  show (match M[n]? with | some (.lst xs) => _ | _ => _) = _
  rw [h]
  show (if xs.length < sizeLine then _ else _) = _
  rw [if_pos hl]
theorem ty_lst {M : Store} {n : Nat} {xs : List D} (h : M[n]? = some (.lst xs)) : bmTy .append M (.loc n) = true ∧ bmTy .index M (.loc n) = true ∧ bmTy .pop M (.loc n) = true ∧ bmTy .extend M (.loc n) = true := by
  have : (lstAt M n).isSome = true := by rw [lstAt_eq.mpr h]; rfl
  exact ⟨this, this, this, this⟩
theorem findD_first {m : Int} : ∀ {xs : List Int} {k : Nat}, xs[k]? = some m → (∀ j, j < k → xs[j]? ≠ some m) → findD (fun y => eqS y (.int m)) (xs.map D.int) = some k
  | [], k, h, _ => by simp at h
  | x :: r, 0, h, _ => by
    have h : x = m := by simpa using h
    rw [List.map_cons]
    unfold findD
    rw [if_pos (by show (x == m) = true; simpa using h)]
  | x :: r, k + 1, h, hj => by
    have h0 : x ≠ m := fun z => hj 0 (by omega) (by simp [z])
    rw [List.map_cons]
    unfold findD
    rw [if_neg (by show ¬ (x == m) = true; simpa using h0), findD_first (k := k) (by simpa using h) fun j hj' => by simpa using hj (j + 1) (by omega)]
    rfl
theorem index_ints {M : Store} {n k : Nat} {xs : List Int} {m : Int} (h : M[n]? = some (.lst (xs.map D.int))) (hk : xs[k]? = some m) (hj : ∀ j, j < k → xs[j]? ≠ some m) : bmE .index M (.loc n) [.int m] = .ok (.int k) M := by
  have sc : ((D.int m).sc && (xs.map D.int).all D.sc) = true := by
    rw [List.all_map]
    have : xs.all (D.sc ∘ D.int) = true := List.all_eq_true.mpr fun _ _ => rfl
    rw [this]
    rfl
  show (match M[n]? with | some (.lst ys) => _ | _ => _) = _
  rw [h]
  show (if ((D.int m).sc && (xs.map D.int).all D.sc) = true then _ else _) = _
  rw [if_pos sc, findD_first hk hj]
/-! two lists of ints -/
theorem pysO_ints (f : Nat → Option PyData) : ∀ xs : List Int, pysO f (xs.map D.int) = some (xs.map PyData.int)
  | [] => rfl
  | x :: r => by
    show (match pyO f (.int x), pysO f (r.map D.int) with | some x, some xs => some (x :: xs) | _, _ => none) = _
    rw [pysO_ints f r]
    rfl
theorem py_ints {M : Store} {n : Nat} {xs : List Int} (h : M[n]? = some (.lst (xs.map D.int))) : py M (.loc n) = some (.list (xs.map PyData.int)) := by
  show loD M 4 n = _
  unfold loD
  rw [h]
  show (pysO (loD M 3) (xs.map D.int)).map PyData.list = _
  rw [pysO_ints]
  rfl
theorem eqvAll_ints : ∀ xs ys : List Int, PyData.eqvAll (xs.map PyData.int) (ys.map PyData.int) = decide (xs = ys)
  | [], [] => rfl
  | [], _ :: _ => rfl
  | _ :: _, [] => rfl
  | x :: xs, y :: ys => by
    show (x == y && PyData.eqvAll (xs.map PyData.int) (ys.map PyData.int)) = _
    rw [eqvAll_ints xs ys]
    by_cases h : x = y <;> by_cases h' : xs = ys <;> simp [h, h']
theorem lay_ints : ∀ xs : List Int, PyData.canLayAll0 (xs.map PyData.int) = true
  | [] => rfl
  | x :: r => by
    show (true && PyData.canLayAll0 (r.map PyData.int)) = true
    rw [lay_ints r]
    rfl
theorem dep_ints : ∀ xs : List Int, PyData.depthAll (xs.map PyData.int) = 0
  | [] => rfl
  | x :: r => by
    show max 0 (PyData.depthAll (r.map PyData.int)) = 0
    rw [dep_ints r]
    rfl
theorem shaped_ints (xs : List Int) : SeqAt.shaped (.list (xs.map PyData.int)) = true := by
  show (PyData.canLayAll0 (xs.map PyData.int) && decide (PyData.depthAll (xs.map PyData.int) + 1 ≤ 64)) = true
  rw [lay_ints, dep_ints]
  rfl
theorem eq_ints {M : Store} {a b : Nat} {xs ys : List Int} (h : M[a]? = some (.lst (xs.map D.int))) (h' : M[b]? = some (.lst (ys.map D.int))) : eqE M (.loc a) (.loc b) = some (decide (xs = ys)) := by
  unfold eqE
  rw [py_ints h, py_ints h']
  show (if (false && false) = true then _ else (if (SeqAt.shaped (.list (xs.map PyData.int)) && SeqAt.shaped (.list (ys.map PyData.int))) = true then some (PyData.eqvAll (xs.map PyData.int) (ys.map PyData.int)) else none)) = _
  rw [shaped_ints, shaped_ints, eqvAll_ints]
  rfl
theorem ne_ints {M : Store} {a b : Nat} {xs ys : List Int} (h : M[a]? = some (.lst (xs.map D.int))) (h' : M[b]? = some (.lst (ys.map D.int))) : cmpE .ne M (.loc a) (.loc b) = some (!decide (xs = ys)) := by
  show (eqE M (.loc a) (.loc b)).map (!·) = _
  rw [eq_ints h h']
  rfl
theorem pairsOf_map : ∀ ps : List (Int × Int), pairsOf (ps.map pairD) = some ps
  | [] => rfl
  | (i, j) :: r => by
    show (pairsOf (r.map pairD)).map ((i, j) :: ·) = _
    rw [pairsOf_map r]
    rfl
theorem sorted_pairs {M : Store} {n : Nat} {ps : List (Int × Int)} (h : M[n]? = some (.lst (ps.map pairD))) (hn : ps ≠ []) : biE .sorted M [.loc n] = .ok (.loc M.length) (M ++ [.lst ((sortP ps).map pairD)]) := by
  show (match lstAt M n with | some xs => (match intsOf xs with | some is => mk M (.lst ((sortI is).map D.int)) | none => (match pairsOf xs with | some ps => mk M (.lst ((sortP ps).map pairD)) | none => .bad)) | none => .bad) = _
  rw [lstAt_eq.mpr h]
  cases ps with
  | nil => exact absurd rfl hn
  | cons p r =>
    have e : intsOf ((p :: r).map pairD) = none := rfl
    show (match intsOf ((p :: r).map pairD) with | some is => mk M (.lst ((sortI is).map D.int)) | none => (match pairsOf ((p :: r).map pairD) with | some ps => mk M (.lst ((sortP ps).map pairD)) | none => .bad)) = _
    rw [e, pairsOf_map]
    rfl
theorem maxI_spec : ∀ {xs : List Int}, xs ≠ [] → ∃ m, maxI xs = some m ∧ m ∈ xs ∧ ∀ y ∈ xs, y ≤ m
  | [], h => absurd rfl h
  | [x], _ => ⟨x, rfl, List.mem_cons_self, fun y hy => by
    have : y = x := by simpa using hy
    omega⟩
  | x :: y :: r, _ => by
    obtain ⟨m, e, h1, h2⟩ := maxI_spec (xs := y :: r) (by simp)
    have e' : maxI (x :: y :: r) = some (if m > x then m else x) := by
      show (match maxI (y :: r) with | none => some x | some m => some (if m > x then m else x)) = _
      rw [e]
    refine ⟨_, e', ?_, fun z hz => ?_⟩
    · split
      · exact List.mem_cons_of_mem _ h1
      · exact List.mem_cons_self
    · rcases List.mem_cons.mp hz with rfl | hz
      · split <;> omega
      · have := h2 z hz
        split <;> omega
theorem minI_spec : ∀ {xs : List Int}, xs ≠ [] → ∃ m, minI xs = some m ∧ m ∈ xs ∧ ∀ y ∈ xs, m ≤ y
  | [], h => absurd rfl h
  | [x], _ => ⟨x, rfl, List.mem_cons_self, fun y hy => by
    have : y = x := by simpa using hy
    omega⟩
  | x :: y :: r, _ => by
    obtain ⟨m, e, h1, h2⟩ := minI_spec (xs := y :: r) (by simp)
    have e' : minI (x :: y :: r) = some (if m < x then m else x) := by
      show (match minI (y :: r) with | none => some x | some m => some (if m < x then m else x)) = _
      rw [e]
    refine ⟨_, e', ?_, fun z hz => ?_⟩
    · split
      · exact List.mem_cons_of_mem _ h1
      · exact List.mem_cons_self
    · rcases List.mem_cons.mp hz with rfl | hz
      · split <;> omega
      · have := h2 z hz
        split <;> omega
theorem row_app {r : List Int} {i : Nat} {x : Int} (h : Row r i) (h0 : 0 ≤ x) (h1 : x < 1000) : Row (r ++ [x]) (i + 1) := by
  refine ⟨by simp [h.1], fun y hy => ?_⟩
  rcases List.mem_append.mp hy with hy | hy
  · exact h.2 y hy
  · have : y = x := by simpa using hy
    subst this
    exact ⟨h0, h1⟩
def rowB : S := (.cons (.ite (.cmp .gt (.var 4) (.int 0)) (.cons (.ex (.bm .append (.var 5) (.cons (.bin .mod (.bi .int (.cons (.var 4) .nil)) (.int 1000)) .nil))) (.cons (.asg (.nm 4) (.bin .fdiv (.var 4) (.int 1000))) .nil)) (.cons (.asg (.nm 7) (.bin .mod (.bi .int (.cons (.bin .add (.bin .add (.bin .mul (.var 3) (.int 48271)) (.bin .mul (.var 6) (.int 69621))) (.int 12345)) .nil)) (.int 2147483647))) (.cons (.asg (.nm 7) (.bin .mod (.bi .int (.cons (.bin .add (.bin .add (.bin .mul (.var 7) (.var 7)) (.bin .mul (.var 7) (.int 16807))) (.bin .mul (.var 6) (.int 40692))) .nil)) (.int 2147483399))) (.cons (.ex (.bm .append (.var 5) (.cons (.bin .mod (.bin .fdiv (.var 7) (.int 64)) (.int 1000)) .nil))) .nil)))) .nil)
/-- a turn of it -/
theorem row_turn {G : Gl} {cl : Cl} {ns : List Int} {place many i : Nat} {cell rest : Int} {r : List Int} {M : Store} {x7 : Option D} (hr : Row r i) (hi : i ≤ 1000) :
    Ws (exS G cl rowB none [some (.rol ns), some (.int place), some (.int many), some (.int cell), some (.int rest), some (.loc M.length), some (.int i), x7] (M ++ [.lst (r.map D.int)]))
      (fun e M1 => ∃ rest r x7, Row r (i + 1) ∧ M1 = M ++ [.lst (r.map D.int)] ∧ e = [some (.rol ns), some (.int place), some (.int many), some (.int cell), some (.int rest), some (.loc M.length), some (.int i), x7]) (fun _ _ => False) (fun _ _ _ _ => False) := by
  have hl : (r.map D.int).length < sizeLine := by rw [List.length_map, hr.1, sizeLine_val]; omega
  unfold rowB
  walk_at "dv"
  simp only [appTy_new, app_new _ _ _ hl, if_true, wp_ok]
  by_cases h : 0 < rest
  · rw [if_pos h]
    refine ⟨rest / 1000, r ++ [rest % 1000], x7, row_app hr (by omega) (by omega), by simp, rfl⟩
  · rw [if_neg h, if_pos (.inl (by omega))]
    refine ⟨rest, r ++ [_], _, row_app (x := _ % 1000) hr ?_ ?_, by rw [List.map_append]; rfl, rfl⟩
    · omega
    · omega
theorem row_ok {G : Gl} {P : Nat → Option Def} (hP : P 15 = some Bd.f15) (n : Nat) (ns : List Int) (place many : Nat) (hp : place ≤ 1000) (hm : many ≤ 1000) (M : Store) :
    Wp (callN G P (n + 1) 15 [.rol ns, .int place, .int many] M) (fun d M1 => d = .loc M.length ∧ ∃ r, Row r many ∧ M1 = M ++ [.lst (r.map D.int)]) (fun _ _ _ => False) := by
  have fin_ : ∀ r : List Int, Row r many → Wp (fin M (.loc M.length) (M ++ [.lst (r.map D.int)])) (fun d M1 => d = .loc M.length ∧ ∃ r, Row r many ∧ M1 = M ++ [.lst (r.map D.int)]) (fun _ _ _ => False) := fun r hr => by
    have := fin_list (M := M) (l := [.lst (r.map D.int)]) (k := 0) rfl (undL_ints r)
    rw [Nat.add_zero] at this
    rw [this]
    exact ⟨rfl, r, hr, rfl⟩
  have mm : -4611686018427387904 ≤ (many : Int) ∧ (many : Int) < 4611686018427387904 := by omega
  have loop : ∀ (cell rest : Int), Ws (forL (.its ((List.range many).map fun (i : Nat) => D.int (i : Int))) [6] true (exS G (callN G P n) rowB none) ((List.range many).map fun (i : Nat) => D.int (i : Int)) [some (.rol ns), some (.int place), some (.int many), some (.int cell), some (.int rest), some (.loc M.length), none, none] (M ++ [.lst []]))
      (fun e M1 => ∃ r, Row r many ∧ M1 = M ++ [.lst (r.map D.int)] ∧ ∀ M', varE 5 e M' = .ok (.loc M.length) M') (fun _ _ => False) (fun _ _ _ _ => False) := by
    intro cell rest
    refine ws_for (fun i e M1 => ∃ rest r x6 x7, Row r i ∧ M1 = M ++ [.lst (r.map D.int)] ∧ e = [some (.rol ns), some (.int place), some (.int many), some (.int cell), some (.int rest), some (.loc M.length), x6, x7]) ⟨rest, [], none, none, ⟨rfl, fun x hx => by cases hx⟩, rfl, rfl⟩ ?_ ?_
    · rintro i x e M1 hx ⟨rest, r, x6, x7, hr, rfl, rfl⟩
      obtain ⟨hi, rfl⟩ := range_get hx
      refine ⟨stands_its _ _, _, rfl, ?_⟩
      exact (row_turn hr (by omega)).mono (fun e M1 ⟨rest, r, x7, a, b, c⟩ => ⟨rest, r, _, x7, a, b, c⟩) (fun _ _ h => h) fun _ _ _ _ h => h
    · rintro e M1 ⟨rest, r, x6, x7, hr, rfl, rfl⟩
      rw [range_len] at hr
      exact ⟨stands_its _ _, r, hr, rfl, fun _ => rfl⟩
  refine wp_call hP rfl ?_
  unfold Bd.f15
  walk_at "dv"
  have go : ∀ cell : Int, Ws (forL (.its ((List.range many).map fun (i : Nat) => D.int (i : Int))) [6] true (exS G (callN G P n) rowB none) ((List.range many).map fun (i : Nat) => D.int (i : Int)) [some (.rol ns), some (.int place), some (.int many), some (.int cell), some (.int (cell - 1000000000000000000)), some (.loc M.length), none, none] (M ++ [.lst []]))
      (fun e M_2 => Wp (varE 5 e M_2) (fun v M1 => Wp (fin M v M1) (fun d M1 => d = D.loc M.length ∧ ∃ r, Row r many ∧ M1 = M ++ [Ob.lst (List.map D.int r)]) fun x x_1 x_2 => False) fun c fs M_3 => oldOk M M_3 = true ∧ (fs.all fun kv => D.und 0 kv.snd) = true ∧ False)
      (fun v M1 => Wp (fin M v M1) (fun d M1 => d = D.loc M.length ∧ ∃ r, Row r many ∧ M1 = M ++ [Ob.lst (List.map D.int r)]) fun x x_1 x_2 => False)
      (fun c fs x M1 => oldOk M M1 = true ∧ (fs.all fun kv => D.und 0 kv.snd) = true ∧ False) := fun cell =>
    (loop cell (cell - 1000000000000000000)).mono (fun e M1 ⟨r, hr, e1, e2⟩ => by rw [e2, e1]; exact fin_ r hr) (fun _ _ h => h.elim) fun _ _ _ _ h => h.elim
  have hx : idxE M (.rol ns) (.int place) = (ns[place]?).map D.int := by
    show (atI ns (place : Int)).map D.int = _
    rw [atI_nat]
  simp only [lstG_ok (M := M) (xs := []) (Nat.zero_le _), wp_ok, if_pos mm, Int.toNat_natCast, hx]
  by_cases h : (place : Int) < ns.length
  · rw [if_pos h]
    have h : place < ns.length := by omega
    refine ⟨.int ns[place], by rw [List.getElem?_eq_getElem h]; rfl, ?_⟩
    exact go ns[place]
  · rw [if_neg h]
    exact go _
end Dv
end

section
set_option Elab.async false
set_option autoImplicit false
set_option linter.all false
set_option maxRecDepth 100000
/-! PvA: the evaluator by values: lists, dicts, objects are trees; only what is changed stands in cells. -/
noncomputable section
namespace Dv
open PySem L2
inductive U where
  | non | bl (b : Bool) | int (i : Int) | str (s : Str) | tup (xs : List U) | rol (xs : List Int) | ktp (xs : List Str)
  | lst (xs : List U) | dct (ks : List Key) (us : List U) | dtt (ks : List (List Key)) (us : List U) | ins (c : Nat) (fs : List Str) (us : List U) | cel (k : Nat)
abbrev UE := List (Option U)
abbrev Cs := List U
mutual
/-- nothing of the store in it -/
def U.fl : U → Bool
  | .tup xs => flL xs
  | .lst _ => false
  | .dct _ _ => false
  | .dtt _ _ => false
  | .ins _ _ _ => false
  | .cel _ => false
  | _ => true
def flL : List U → Bool
  | [] => true
  | u :: r => u.fl && flL r
end
mutual
/-- as it stands in the store, where nothing of the store is in it -/
def U.fd : U → D
  | .non => .non | .bl b => .bl b | .int i => .int i | .str s => .str s | .rol xs => .rol xs | .ktp xs => .ktp xs
  | .tup xs => .tup (fdL xs)
  | _ => .non
def fdL : List U → List D
  | [] => []
  | u :: r => u.fd :: fdL r
end
mutual
/-- the cells in it stand below m -/
def U.lc (m : Nat) : U → Bool
  | .tup xs => lcL m xs
  | .lst xs => lcL m xs
  | .dct _ xs => lcL m xs
  | .dtt _ xs => lcL m xs
  | .ins _ _ xs => lcL m xs
  | .cel k => decide (k < m)
  | _ => true
def lcL (m : Nat) : List U → Bool
  | [] => true
  | u :: r => u.lc m && lcL m r
end
def U.sc : U → Bool
  | .non => true | .bl _ => true | .int _ => true | .str _ => true | _ => false
def ofC : D → Option U
  | .int i => some (.int i) | .str s => some (.str s) | .ktp xs => some (.ktp xs) | .non => some .non | .bl b => some (.bl b) | _ => none

/-! ### ends -/
inductive PO (α : Type) where
  | ok (a : α) (σ : Cs) (z : Bool)
  | exc (c : Nat) (fs : List (Str × U)) (σ : Cs) (z : Bool)
  | bad
namespace PO
def or {α : Type} (z : Bool) : PO α → PO α
  | .ok a σ y => .ok a σ (z || y)
  | .exc c fs σ y => .exc c fs σ (z || y)
  | .bad => .bad
def bind {α β : Type} (o : PO α) (f : α → Cs → PO β) : PO β := match o with
  | .ok a σ z => (f a σ).or z
  | .exc c fs σ z => .exc c fs σ z
  | .bad => .bad
def nox {α : Type} (o : PO α) : PO α := match o with
  | .ok a σ z => .ok a σ z
  | _ => .bad
end PO
def ofU {α : Type} (o : Option α) (σ : Cs) : PO α := match o with
  | some a => .ok a σ false
  | none => .bad

/-! ### operations -/
def dref (σ : Cs) : U → Option U
  | .cel k => σ[k]?
  | u => some u
def lstU (σ : Cs) (u : U) : Option (List U) := match dref σ u with
  | some (.lst xs) => some xs
  | _ => none
def seqU (σ : Cs) (u : U) : Option (List U) := match dref σ u with
  | some (.lst xs) => some xs
  | some (.tup xs) => some xs
  | some (.rol xs) => some (xs.map U.int)
  | _ => none
def lkp {κ α : Type} [DecidableEq κ] : List κ → List α → κ → Option α
  | k :: ks, u :: us, x => if k = x then some u else lkp ks us x
  | _, _, _ => none
def rpl {κ α : Type} [DecidableEq κ] : List κ → List α → κ → α → List α
  | k :: ks, u :: us, x, v => (if k = x then v else u) :: rpl ks us x v
  | _, us, _, _ => us
def putK {κ α : Type} [DecidableEq κ] (ks : List κ) (us : List α) (x : κ) (v : α) : List κ × List α := if x ∈ ks then (ks, rpl ks us x v) else (ks ++ [x], us ++ [v])
def putF {α : Type} : List Str → List α → Str → α → List Str × List α
  | [], _, f, v => ([f], [v])
  | g :: fs, us, f, v => if g = f then (f :: fs, v :: us.tail) else match us with
    | u :: us => (g :: (putF fs us f v).1, u :: (putF fs us f v).2)
    | [] => (g :: fs, [])
def truU (σ : Cs) (u : U) : Option Bool := match dref σ u with
  | some .non => some false
  | some (.bl b) => some b
  | some (.int i) => some (i != 0)
  | some (.str s) => if s.length ≤ sizeLine then some (s.length != 0) else none
  | some (.tup xs) => some (!xs.isEmpty)
  | some (.rol xs) => some (!xs.isEmpty)
  | some (.lst xs) => some (!xs.isEmpty)
  | some (.dct ks _) => some (!ks.isEmpty)
  | _ => none
mutual
def pyU : U → Option PyData
  | .non => some .none
  | .bl b => some (.bool b)
  | .int i => some (.int i)
  | .str s => some (.str s)
  | .rol xs => some (.list (xs.map PyData.int))
  | .tup xs => (pyL xs).map PyData.tuple
  | .lst xs => (pyL xs).map PyData.list
  | _ => none
def pyL : List U → Option (List PyData)
  | [] => some []
  | u :: r => match pyU u, pyL r with
    | some x, some xs => some (x :: xs)
    | _, _ => none
end
mutual
/-- how deep lists stand in lists -/
def U.ld : U → Nat
  | .tup xs => ldL xs
  | .lst xs => ldL xs + 1
  | _ => 0
def ldL : List U → Nat
  | [] => 0
  | u :: r => max u.ld (ldL r)
end
def eqU (σ : Cs) (x y : U) : Option Bool :=
  if (x.sc && y.sc) = true then some (eqS x.fd y.fd)
  else match dref σ x, dref σ y with
    | some a, some b => match pyU a, pyU b with
      | some d, some e => if (SeqAt.shaped d && SeqAt.shaped e && (decide (a.ld ≤ 4) && decide (b.ld ≤ 4))) = true then some (PyData.eqv d e) else none
      | _, _ => none
    | _, _ => none
def U.key? : U → Option Key
  | .int i => some (.inl i)
  | .str s => some (.inr s)
  | _ => none
def keyU : Key → U
  | .inl i => .int i
  | .inr s => .str s
def keysU : List U → Option (List Key)
  | [] => some []
  | u :: r => match u.key?, keysU r with
    | some k, some ks => some (k :: ks)
    | _, _ => none
def inU (σ : Cs) (x y : U) : Option Bool := match dref σ y with
  | some (.str z) => match x with
    | .str a => match a.cps.toList with
      | [c] => some (decide (c ∈ z.cps.toList))
      | _ => none
    | _ => none
  | some (.lst ys) => if (x.sc && ys.all U.sc) = true then some (ys.any fun y => eqS y.fd x.fd)
      else match dref σ x with
        | some a => match pyU a, pyL ys with
          | some d, some ds => if (SeqAt.shaped d && SeqAt.shaped (.list ds) && (decide (a.ld ≤ 4) && decide (ldL ys ≤ 3))) = true then some (ds.any fun z => PyData.eqv z d) else none
          | _, _ => none
        | none => none
  | some (.dct ks us) => match x.key? with
      | some k => some (lkp ks us k).isSome
      | none => none
  | some (.tup ys) => if (x.sc && ys.all U.sc) = true then some (ys.any fun y => eqS y.fd x.fd) else none
  | some (.ktp ys) => if x.sc = true then some (ys.any fun y => eqS (.str y) x.fd) else none
  | _ => none
def cmpU (o : Co) (σ : Cs) (x y : U) : Option Bool := match o with
  | .lt => match x, y with
    | .int i, .int j => some (decide (i < j))
    | _, _ => none
  | .le => match x, y with
    | .int i, .int j => some (decide (i ≤ j))
    | _, _ => none
  | .gt => match x, y with
    | .int i, .int j => some (decide (j < i))
    | _, _ => none
  | .ge => match x, y with
    | .int i, .int j => some (decide (j ≤ i))
    | _, _ => none
  | .eq => eqU σ x y
  | .ne => (eqU σ x y).map (!·)
  | .inn => inU σ x y
  | .nin => (inU σ x y).map (!·)
  | .iss => match y with
    | .non => some (match x with | .non => true | _ => false)
    | _ => none
  | .isn => match y with
    | .non => some (match x with | .non => false | _ => true)
    | _ => none
def cutG {α : Type} (xs : List α) (lo hi : Option Int) : List α := (xs.drop (HT.sIx xs.length 0 lo)).take (HT.sIx xs.length xs.length hi - HT.sIx xs.length 0 lo)
def binU (o : Op) (σ : Cs) (x y : U) : Option U := match o with
  | .add => match dref σ x, dref σ y with
    | some (.int i), some (.int j) => some (.int (i + j))
    | some (.str a), some (.str b) => if a.length + b.length ≤ sizeLine then some (.str (a ++ b)) else none
    | some (.tup a), some (.tup b) => if a.length + b.length ≤ sizeLine then some (.tup (a ++ b)) else none
    | some (.lst a), some (.lst b) => if a.length + b.length ≤ sizeLine then some (.lst (a ++ b)) else none
    | _, _ => none
  | .sub => match x, y with
    | .int i, .int j => some (.int (i - j))
    | _, _ => none
  | .mul => match x, y with
    | .int i, .int j => if (-18446744073709551616 < i ∧ i < 18446744073709551616) ∨ (-18446744073709551616 < j ∧ j < 18446744073709551616) ∨ i.natAbs.log2 + j.natAbs.log2 < 1000000 then some (.int (i * j)) else none
    | .str a, .int n => if 0 ≤ n ∧ n ≤ 1000 ∧ a.length ≤ 1000 then some (.str (repS a n.toNat)) else none
    | _, _ => none
  | .fdiv => match x, y with
    | .int i, .int j => if 0 < j ∧ j < 18446744073709551616 then some (.int (i / j)) else none
    | _, _ => none
  | .mod => match x, y with
    | .int i, .int j => if 0 < j then some (.int (i % j)) else none
    | _, _ => none
  | .pow => match x, y with
    | .int i, .int j => if 0 ≤ j ∧ j ≤ 1000000 ∧ -18446744073709551616 < i ∧ i < 18446744073709551616 then some (.int (i ^ j.toNat)) else none
    | _, _ => none
def idxU (σ : Cs) (x i : U) : Option U := match dref σ x with
  | some (.str z) => match i with
    | .int i => if z.length ≤ sizeLine then (atI z.cps.toList i).map fun c => .str ⟨#[c]⟩ else none
    | _ => none
  | some (.tup xs) => match i with
    | .int i => atI xs i
    | _ => none
  | some (.rol xs) => match i with
    | .int i => (atI xs i).map U.int
    | _ => none
  | some (.lst xs) => match i with
    | .int i => atI xs i
    | _ => none
  | some (.dct ks us) => match i.key? with
    | some k => lkp ks us k
    | none => none
  | some (.dtt ks us) => match i with
    | .tup xs => match keysU xs with
      | some k => lkp ks us k
      | none => none
    | _ => none
  | _ => none
def slcU (σ : Cs) (x : U) (lo hi : Option Int) : Option U := match dref σ x with
  | some (.str z) => if z.length ≤ sizeLine then some (.str (cutS z lo hi)) else none
  | some (.tup xs) => some (.tup (cutG xs lo hi))
  | some (.lst xs) => some (.lst (cutG xs lo hi))
  | _ => none
def isiU (σ : Cs) (x : U) (t : Ty) : Option Bool := match dref σ x with
  | some .non => some false
  | some (.int _) => match t with | .int => some true | _ => some false
  | some (.bl _) => match t with | .int => some true | .bool => some true | _ => some false
  | some (.str _) => match t with | .str => some true | _ => some false
  | some (.tup _) => match t with | .tuple => some true | _ => some false
  | some (.lst _) => match t with | .list => some true | _ => some false
  | _ => none
def intsU : List U → Option (List Int)
  | [] => some []
  | .int i :: r => (intsU r).map (i :: ·)
  | _ :: _ => none
def strsU : List U → Option (List Str)
  | [] => some []
  | .str s :: r => (strsU r).map (s :: ·)
  | _ :: _ => none
def pairsU : List U → Option (List (Int × Int))
  | [] => some []
  | .tup [.int i, .int j] :: r => (pairsU r).map ((i, j) :: ·)
  | _ :: _ => none
def pairU (p : Int × Int) : U := .tup [.int p.1, .int p.2]
def biU (b : Bi) (σ : Cs) (vs : List U) : Option U := match b with
  | .len => match vs with
    | [x] => match dref σ x with
      | some (.str s) => if s.length ≤ sizeLine then some (.int s.length) else none
      | some (.lst xs) => some (.int xs.length)
      | some (.tup xs) => some (.int xs.length)
      | some (.rol xs) => some (.int xs.length)
      | _ => none
    | _ => none
  | .int => match vs with
    | [.int i] => some (.int i)
    | [.bl b] => some (.int (if b then 1 else 0))
    | [.str s] => match PySem.intText? s with
      | some n => if s.length ≤ 640 then some (.int n) else none
      | none => none
    | _ => none
  | .abs => match vs with
    | [.int i] => some (.int (if i < 0 then -i else i))
    | _ => none
  | .min => match vs with
    | [.int i, .int j] => some (.int (if j < i then j else i))
    | [x] => match (lstU σ x).bind intsU with
      | some is => (minI is).map U.int
      | none => none
    | _ => none
  | .max => match vs with
    | [.int i, .int j] => some (.int (if j > i then j else i))
    | [x] => match (lstU σ x).bind intsU with
      | some is => (maxI is).map U.int
      | none => none
    | _ => none
  | .sum => match vs with
    | [x] => match (lstU σ x).bind intsU with
      | some is => some (.int is.sum)
      | none => none
    | _ => none
  | .str => match vs with
    | [.int i] => if -18446744073709551616 < i ∧ i < 18446744073709551616 then some (.str (toString i)) else none
    | _ => none
  | .list => match vs with
    | [x] => match dref σ x with
      | some (.lst xs) => some (.lst xs)
      | some (.tup xs) => some (.lst xs)
      | some (.dct ks _) => some (.lst (ks.map keyU))
      | _ => none
    | _ => none
  | .tuple => match vs with
    | [x] => match lstU σ x with
      | some xs => some (.tup xs)
      | none => none
    | _ => none
  | .sorted => match vs with
    | [x] => match lstU σ x with
      | some xs => match intsU xs with
        | some is => some (.lst ((sortI is).map U.int))
        | none => match pairsU xs with
          | some ps => some (.lst ((sortP ps).map pairU))
          | none => none
      | none => none
    | _ => none
/-- a cell's new contents; fresh: what was put in has nothing of the store -/
def putC (lk : List Nat) (m : Nat) (σ : Cs) (k : Nat) (u r : U) (fl : Bool) : PO U := if k ∈ lk then .bad else .ok r (σ.set k u) (decide (k < m) && !fl)
def findU (p : U → Bool) : List U → Option Nat
  | [] => none
  | y :: r => if p y = true then some 0 else (findU p r).map (· + 1)
def bmU (lk : List Nat) (m : Nat) (b : Bm) (σ : Cs) (o : U) (vs : List U) : PO U := match b with
  | .append => match o, vs with
    | .cel k, [x] => match σ[k]? with
      | some (.lst xs) => if xs.length < sizeLine then putC lk m σ k (.lst (xs ++ [x])) .non x.fl else .bad
      | _ => .bad
    | _, _ => .bad
  | .extend => match o, vs with
    | .cel k, [y] => match σ[k]?, lstU σ y with
      | some (.lst xs), some ys => if xs.length + ys.length ≤ sizeLine then putC lk m σ k (.lst (xs ++ ys)) .non (flL ys) else .bad
      | _, _ => .bad
    | _, _ => .bad
  | .pop => match o, vs with
    | .cel k, [] => match σ[k]? with
      | some (.lst xs) => match xs[xs.length - 1]? with
        | some x => putC lk m σ k (.lst xs.dropLast) x true
        | none => .bad
      | _ => .bad
    | .cel k, [.int i] => match σ[k]? with
      | some (.lst xs) => match ixN xs.length i with
        | some j => match xs[j]? with
          | some x => putC lk m σ k (.lst (xs.eraseIdx j)) x true
          | none => .bad
        | none => .bad
      | _ => .bad
    | _, _ => .bad
  | .index => match vs with
    | [x] => match lstU σ o with
      | some ys => if (x.sc && ys.all U.sc) = true then
          match findU (fun y => eqS y.fd x.fd) ys with
          | some j => .ok (.int j) σ false
          | none => .bad
        else .bad
      | none => .bad
    | _ => .bad
  | .split => match o, vs with
    | .str a, [.str b] => if b.length ≠ 0 ∧ a.length + 2 ≤ sizeLine then .ok (.lst ((Txt.split a b).map U.str)) σ false else .bad
    | _, _ => .bad
  | .join => match o, vs with
    | .str a, [x] => match (lstU σ x).bind strsU with
      | some ys => if (ys.map (·.length)).sum + ys.length * a.length ≤ 16777216 then .ok (.str (Txt.join a ys)) σ false else .bad
      | none => .bad
    | _, _ => .bad
  | .startswith => match o, vs with
    | .str a, [.str b] => .ok (.bl (Txt.startswith a b)) σ false
    | _, _ => .bad
  | .get => match vs with
    | [x] => match dref σ o with
      | some (.dct ks us) => match x.key? with
        | some k => .ok ((lkp ks us k).getD .non) σ false
        | none => .bad
      | _ => .bad
    | _ => .bad
def bmTyU (b : Bm) (σ : Cs) (o : U) : Bool := match b with
  | .append => (lstU σ o).isSome
  | .extend => (lstU σ o).isSome
  | .pop => (lstU σ o).isSome
  | .index => (lstU σ o).isSome
  | .split => match o with | .str _ => true | _ => false
  | .join => match o with | .str _ => true | _ => false
  | .startswith => match o with | .str _ => true | _ => false
  | .get => match dref σ o with | some (.dct _ _) => true | _ => false
def setU (lk : List Nat) (m : Nat) (σ : Cs) (o i v : U) : PO U := match o with
  | .cel k => match σ[k]? with
    | some (.lst xs) => match i with
      | .int a => match ixN xs.length a with
        | some j => putC lk m σ k (.lst (xs.set j v)) .non v.fl
        | none => .bad
      | _ => .bad
    | some (.dct ks us) => match i.key? with
      | some x => if ks.length < sizeLine then putC lk m σ k (.dct (putK ks us x v).1 (putK ks us x v).2) .non v.fl else .bad
      | none => .bad
    | some (.dtt ks us) => match i with
      | .tup xs => match keysU xs with
        | some x => if ks.length < sizeLine then putC lk m σ k (.dtt (putK ks us x v).1 (putK ks us x v).2) .non v.fl else .bad
        | none => .bad
      | _ => .bad
    | _ => .bad
  | _ => .bad

/-! ### what is walked -/
structure USrc where
  xs : List U
  lk : Option Nat
def srcU (σ : Cs) : U → PO USrc
  | .lst xs => .ok ⟨xs, none⟩ σ false
  | .tup xs => .ok ⟨xs, none⟩ σ false
  | .rol xs => .ok ⟨xs.map U.int, none⟩ σ false
  | .str z => .ok ⟨z.cps.toList.map fun c => .str ⟨#[c]⟩, none⟩ σ false
  | .cel k => match σ[k]? with
    | some (.lst xs) => .ok ⟨xs, some k⟩ σ false
    | _ => .bad
  | _ => .bad
def USrc.lock (s : USrc) (lk : List Nat) : List Nat := match s.lk with
  | some k => k :: lk
  | none => lk
def rngU (σ : Cs) : List U → PO USrc
  | [.int n] => if -4611686018427387904 ≤ n ∧ n < 4611686018427387904 then .ok ⟨(List.range n.toNat).map fun i => .int (i : Nat), none⟩ σ false else .bad
  | [.int a, .int b] => if -4611686018427387904 ≤ a ∧ a < 4611686018427387904 ∧ -4611686018427387904 ≤ b ∧ b < 4611686018427387904 then .ok ⟨(List.range (b - a).toNat).map fun i => .int (a + (i : Nat)), none⟩ σ false else .bad
  | _ => .bad
def bindNU : List Nat → List U → UE → Option UE
  | [], [], e => some e
  | i :: is, d :: ds, e => bindNU is ds (e.set i (some d))
  | _, _, _ => none
def bindTU (tg : List Nat) (sole : Bool) (d : U) (e : UE) : Option UE := match sole with
  | true => match tg with
    | [i] => some (e.set i (some d))
    | _ => none
  | false => match d with
    | .tup ds => bindNU tg ds e
    | _ => none
def wipeU (e : UE) : List Nat → UE
  | [] => e
  | v :: vs => (wipeU e vs).set v none
def compU (tg : List Nat) (sole : Bool) (e : UE) (tt : UE → Cs → PO Bool) (te : UE → Cs → PO U) : List U → List U → Cs → PO (List U)
  | [], acc, σ => .ok acc σ false
  | x :: r, acc, σ => match bindTU tg sole x e with
    | some e' => (tt e' σ).nox.bind fun b σ1 => if b = true then (te e' σ1).nox.bind fun d σ2 => if acc.length < sizeLine then compU tg sole e tt te r (acc ++ [d]) σ2 else .bad else compU tg sole e tt te r acc σ1
    | none => .bad
def dspU : List U → List U → List Key → List U → Option (List Key × List U)
  | [], [], ks, us => some (ks, us)
  | a :: as, v :: vs, ks, us => match a.key? with
    | some k => dspU as vs (putK ks us k v).1 (putK ks us k v).2
    | none => none
  | _, _, _, _ => none
def pairUpU : List U → List U × List U
  | k :: v :: r => (k :: (pairUpU r).1, v :: (pairUpU r).2)
  | _ => ([], [])

/-! ### expressions -/
/-- cells at or above m are written out -/
def frzL (f : U → Option U) : List U → Option (List U)
  | [] => some []
  | u :: r => match f u, frzL f r with
    | some x, some xs => some (x :: xs)
    | _, _ => none
def frz (m : Nat) (σ : Cs) : Nat → U → Option U
  | 0, u => if u.lc m = true then some u else none
  | n + 1, u => if u.lc m = true then some u else match u with
    | .cel k => (σ[k]?).bind (frz m σ n)
    | .tup us => (frzL (frz m σ n) us).map U.tup
    | .lst us => (frzL (frz m σ n) us).map U.lst
    | .dct ks us => (frzL (frz m σ n) us).map (U.dct ks)
    | .dtt ks us => (frzL (frz m σ n) us).map (U.dtt ks)
    | .ins c fs us => (frzL (frz m σ n) us).map (U.ins c fs)
    | _ => none
abbrev Pc := Nat → List U → Cs → PO U
/-- what is said of the defs: io f: f changes cells of its arguments; fre f: f gives a new object; O f i: the fresh list that slot i gets is a cell; A c f: so is what the field f of class c gets -/
structure Fl where
  io : Nat → Bool
  fre : Nat → Bool
  O : Nat → Nat → Bool
  A : Nat → Str → Bool
structure USem where
  e : UE → Cs → PO U
  t : UE → Cs → PO Bool
  a : UE → Cs → PO (List U)
  p : UE → Cs → PO (Option Int)
  i : UE → Cs → PO USrc
  c : UE → Cs → PO Bool
def asIntU (σ : Cs) (x : U) : PO (Option Int) := match x with
  | .int i => .ok (some i) σ false
  | _ => .bad
def usE (f : UE → Cs → PO U) : USem where
  e := f
  t := fun e σ => (f e σ).bind fun x σ1 => ofU (truU σ1 x) σ1
  a := fun _ _ => .bad
  p := fun e σ => (f e σ).bind fun x σ1 => asIntU σ1 x
  i := fun e σ => (f e σ).bind fun x σ1 => srcU σ1 x
  c := fun e σ => (f e σ).bind fun x σ1 => ofU (truU σ1 x) σ1
def usT (f : UE → Cs → PO U) (t : UE → Cs → PO Bool) : USem := { usE f with t := t, c := t }
def varU (i : Nat) (e : UE) (σ : Cs) : PO U := match e[i]? with
  | some (some d) => .ok d σ false
  | _ => .bad
def negU (σ : Cs) (x : U) : PO U := match x with
  | .int i => .ok (.int (-i)) σ false
  | _ => .bad
def andU (x : U) (k : Cs → PO U) (σ : Cs) : PO U := match x with
  | .bl true => k σ
  | .bl false => .ok (.bl false) σ false
  | _ => .bad
def orU (x : U) (k : Cs → PO U) (σ : Cs) : PO U := match x with
  | .bl false => k σ
  | .bl true => .ok (.bl true) σ false
  | _ => .bad
/-- f(vs) -/
def calU (F : Fl) (pc : Pc) (lk : List Nat) (f : Nat) (vs : List U) (σ : Cs) : PO U :=
  if F.io f = true then (if lk = [] then pc f vs σ else .bad)
  else match frzL (frz 0 σ 4) vs with
    | some ws => match pc f ws [] with
      | .ok u [] _ => if (lcL 0 vs || u.fl) = true then .ok u σ false else .bad
      | .exc c fs [] _ => .exc c fs σ false
      | _ => .bad
    | none => .bad
section
variable (G : Gl) (F : Fl) (pc : Pc) (m : Nat) (cu : Option (Nat × List (Str × U)))
def fldU (σ : Cs) (x : U) (f : Str) : PO U := match dref σ x with
  | some (.ins c fs us) => if G.fok c f = true then ofU (lkp fs us f) σ else .bad
  | _ => .bad
def makU (lk : List Nat) (c : Nat) (vs : List U) (σ : Cs) : PO U := match G.ini c with
  | some g => if lk = [] then (pc g (.cel σ.length :: vs) (σ ++ [.ins c [] []])).bind fun v σ2 => match v with
    | .non => .ok (.cel σ.length) σ2 false
    | _ => .bad else .bad
  | none => .bad
def mthU (σ : Cs) (x : U) (i : Nat) : Option Nat := match dref σ x with
  | some (.ins c fs us) => if (lkp fs us (G.mn i)).isNone = true then G.mid c i else none
  | _ => none
def dspE' (vs : List U) (σ : Cs) : PO U := match dspU (pairUpU vs).1 (pairUpU vs).2 [] [] with
  | some kus => if (pairUpU vs).1.length ≤ 15 then .ok (.dct kus.1 kus.2) σ false else .bad
  | none => .bad
def isxU (c : Nat) (σ : Cs) : PO U := match cu with
  | some (k, []) => if G.isc c = true then .ok (.bl (G.sub k c)) σ false else .bad
  | _ => .bad
def xfdU (f : Str) (σ : Cs) : PO U := match cu with
  | some (k, fs) => if G.xok k f = true then ofU (fs.lookup f) σ else .bad
  | none => .bad
def revU (σ : Cs) (x : U) : PO U := match lstU σ x with
  | some xs => .ok (.lst xs.reverse) σ false
  | none => .bad
def pv : E → List Nat → USem
  | .nil, _ => { usE fun _ _ => .bad with a := fun _ σ => .ok [] σ false, p := fun _ σ => .ok none σ false, c := fun _ σ => .ok true σ false }
  | .cons x y, lk => { usE fun _ _ => .bad with a := fun e σ => ((pv x lk).e e σ).bind fun d σ1 => ((pv y lk).a e σ1).bind fun ds σ2 => .ok (d :: ds) σ2 false }
  | .rng x, lk => { usE fun _ _ => .bad with i := fun e σ => ((pv x lk).a e σ).bind fun vs σ1 => rngU σ1 vs }
  | .var i, _ => usE (varU i)
  | .non, _ => usE fun _ σ => .ok .non σ false
  | .bl b, _ => usE fun _ σ => .ok (.bl b) σ false
  | .int i, _ => usE fun _ σ => .ok (.int i) σ false
  | .str s, _ => usE fun _ σ => .ok (.str s) σ false
  | .glb k, _ => usE fun _ σ => ofU ((G.con k).bind ofC) σ
  | .bin o a b, lk => usE fun e σ => ((pv a lk).e e σ).bind fun x σ1 => ((pv b lk).e e σ1).bind fun y σ2 => ofU (binU o σ2 x y) σ2
  | .neg a, lk => usE fun e σ => ((pv a lk).e e σ).bind fun x σ1 => negU σ1 x
  | .cmp o a b, lk => usE fun e σ => ((pv a lk).e e σ).bind fun x σ1 => ((pv b lk).e e σ1).bind fun y σ2 => (ofU (cmpU o σ2 x y) σ2).bind fun c σ3 => .ok (.bl c) σ3 false
  | .chn o p a b c, lk => usE fun e σ => ((pv a lk).e e σ).bind fun x σ1 => ((pv b lk).e e σ1).bind fun y σ2 => (ofU (cmpU o σ2 x y) σ2).bind fun k σ3 =>
      if k = true then ((pv c lk).e e σ3).bind fun z σ4 => (ofU (cmpU p σ4 y z) σ4).bind fun c σ5 => .ok (.bl c) σ5 false else .ok (.bl false) σ3 false
  | .ch3 o p q a b c d, lk => usE fun e σ => ((pv a lk).e e σ).bind fun x σ1 => ((pv b lk).e e σ1).bind fun y σ2 => (ofU (cmpU o σ2 x y) σ2).bind fun k σ3 =>
      if k = true then ((pv c lk).e e σ3).bind fun z σ4 => (ofU (cmpU p σ4 y z) σ4).bind fun k σ5 =>
        if k = true then ((pv d lk).e e σ5).bind fun w σ6 => (ofU (cmpU q σ6 z w) σ6).bind fun c σ7 => .ok (.bl c) σ7 false else .ok (.bl false) σ5 false
      else .ok (.bl false) σ3 false
  | .and a b, lk => usT (fun e σ => ((pv a lk).e e σ).bind fun x σ1 => andU x ((pv b lk).e e) σ1) fun e σ => ((pv a lk).t e σ).bind fun x σ1 => if x = true then (pv b lk).t e σ1 else .ok false σ1 false
  | .or a b, lk => usT (fun e σ => ((pv a lk).e e σ).bind fun x σ1 => orU x ((pv b lk).e e) σ1) fun e σ => ((pv a lk).t e σ).bind fun x σ1 => if x = true then .ok true σ1 false else (pv b lk).t e σ1
  | .not a, lk => usT (fun e σ => ((pv a lk).e e σ).bind fun x σ1 => (ofU (truU σ1 x) σ1).bind fun b σ2 => .ok (.bl (!b)) σ2 false) fun e σ => ((pv a lk).t e σ).bind fun x σ1 => .ok (!x) σ1 false
  | .ife c a b, lk => usT (fun e σ => ((pv c lk).t e σ).bind fun t σ1 => if t = true then (pv a lk).e e σ1 else (pv b lk).e e σ1) fun e σ => ((pv c lk).t e σ).bind fun t σ1 => if t = true then (pv a lk).t e σ1 else (pv b lk).t e σ1
  | .tup es, lk => usE fun e σ => ((pv es lk).a e σ).bind fun vs σ1 => if vs.length ≤ sizeLine then .ok (.tup vs) σ1 false else .bad
  | .lst es, lk => usE fun e σ => ((pv es lk).a e σ).bind fun vs σ1 => if vs.length ≤ sizeLine then .ok (.lst vs) σ1 false else .bad
  | .dnl tk, _ => usE fun _ σ => if tk = true then .ok (.dtt [] []) σ false else .ok (.dct [] []) σ false
  | .dsp es, lk => usE fun e σ => ((pv es lk).a e σ).bind fun vs σ1 => dspE' vs σ1
  | .idx a i, lk => usE fun e σ => ((pv a lk).e e σ).bind fun x σ1 => ((pv i lk).e e σ1).bind fun y σ2 => ofU (idxU σ2 x y) σ2
  | .slc a lo hi, lk => usE fun e σ => ((pv a lk).e e σ).bind fun x σ1 => ((pv lo lk).p e σ1).bind fun l σ2 => ((pv hi lk).p e σ2).bind fun h σ3 => ofU (slcU σ3 x l h) σ3
  | .rev a, lk => usE fun e σ => ((pv a lk).e e σ).bind fun x σ1 => revU σ1 x
  | .fld a f, lk => usE fun e σ => ((pv a lk).e e σ).bind fun x σ1 => fldU G σ1 x f
  | .cal f es, lk => usE fun e σ => ((pv es lk).a e σ).bind fun vs σ1 => calU F pc lk f vs σ1
  | .mak c es, lk => usE fun e σ => ((pv es lk).a e σ).bind fun vs σ1 => makU G pc lk c vs σ1
  | .mth o i es, lk => usE fun e σ => ((pv o lk).e e σ).bind fun x σ1 => match mthU G σ1 x i with
    | some g => ((pv es lk).a e σ1).bind fun vs σ2 => calU F pc lk g (x :: vs) σ2
    | none => .bad
  | .bi b es, lk => usE fun e σ => ((pv es lk).a e σ).bind fun vs σ1 => ofU (biU b σ1 vs) σ1
  | .bm b o es, lk => usE fun e σ => ((pv o lk).e e σ).bind fun x σ1 => if bmTyU b σ1 x = true then ((pv es lk).a e σ1).bind fun vs σ2 => bmU lk m b σ2 x vs else .bad
  | .isi a t, lk => usE fun e σ => ((pv a lk).e e σ).bind fun x σ1 => (ofU (isiU σ1 x t) σ1).bind fun c σ2 => .ok (.bl c) σ2 false
  | .isx c, _ => usE fun _ σ => isxU G cu c σ
  | .xfd f, _ => usE fun _ σ => xfdU G cu f σ
  | .cmp1 elt tg sole own it cond, lk => usE fun e σ => ((pv it lk).i e σ).bind fun s σ1 =>
      (compU tg sole (wipeU e own) (fun e' σ' => (pv cond (s.lock lk)).c e' σ') (fun e' σ' => (pv elt (s.lock lk)).e e' σ') s.xs [] σ1).bind fun xs σ2 => if xs.length ≤ sizeLine then .ok (.lst xs) σ2 false else .bad
end

/-! ### statements -/
inductive PR where
  | nx (e : UE) (σ : Cs) (z : Bool) | rt (d : U) (σ : Cs) (z : Bool) | exc (c : Nat) (fs : List (Str × U)) (e : UE) (σ : Cs) (z : Bool) | bad
def PR.or (z : Bool) : PR → PR
  | .nx e σ y => .nx e σ (z || y)
  | .rt d σ y => .rt d σ (z || y)
  | .exc c fs e σ y => .exc c fs e σ (z || y)
  | .bad => .bad
def PO.run {α : Type} (o : PO α) (e : UE) (f : α → Cs → PR) : PR := match o with
  | .ok a σ z => (f a σ).or z
  | .exc c fs σ z => .exc c fs e σ z
  | .bad => .bad
def PR.andThen (r : PR) (f : UE → Cs → PR) : PR := match r with
  | .nx e σ z => (f e σ).or z
  | .rt d σ z => .rt d σ z
  | .exc c fs e σ z => .exc c fs e σ z
  | .bad => .bad
/-- a new list (dict) is worth x, held by nothing -/
def freshE (F : Fl) : E → Bool
  | .lst _ => true | .cmp1 _ _ _ _ _ _ => true | .dnl _ => true | .dsp _ => true | .slc _ _ _ => true | .rev _ => true | .bin .add _ _ => true | .bi .list _ => true | .bi .sorted _ => true
  | .cal f _ => F.fre f && !F.io f
  | _ => false
/-- what the slot gets -/
def thaw (own fr : Bool) (u : U) (σ : Cs) : Option (U × Cs) := match own with
  | false => some (u, σ)
  | true => match u with
    | .lst _ => if fr = true then some (.cel σ.length, σ ++ [u]) else none
    | .dct _ _ => if fr = true then some (.cel σ.length, σ ++ [u]) else none
    | .dtt _ _ => if fr = true then some (.cel σ.length, σ ++ [u]) else none
    | u => some (u, σ)
def attU (G : Gl) (lk : List Nat) (m : Nat) (A : Nat → Str → Bool) (fr : Bool) (σ : Cs) (o : U) (f : Str) (v : U) : PO U := match o with
  | .cel k => match σ[k]? with
    | some (.ins c fs us) => if fs.length < 1000 ∧ G.fok c f = true then match thaw (A c f) fr v σ with
        | some (v', σ') => putC lk m σ' k (.ins c (putF fs us f v').1 (putF fs us f v').2) .non v'.fl
        | none => .bad
      else .bad
    | _ => .bad
  | _ => .bad
section
variable (G : Gl) (F : Fl) (pc : Pc) (m f : Nat)
def asgU (cu : Option (Nat × List (Str × U))) (lk : List Nat) (t : T) (fr : Bool) (v : U) (e : UE) (σ : Cs) : PR := match t with
  | .nm i => match thaw (F.O f i) fr v σ with
    | some (u, σ') => .nx (e.set i (some u)) σ' false
    | none => .bad
  | .tp is => match v with
    | .tup ds => match bindNU is ds e with
      | some e' => .nx e' σ false
      | none => .bad
    | _ => .bad
  | .sub o i => ((pv G F pc m cu o lk).e e σ).run e fun x σ1 => ((pv G F pc m cu i lk).e e σ1).run e fun y σ2 => (setU lk m σ2 x y v).run e fun _ σ3 => .nx e σ3 false
  | .att o g => ((pv G F pc m cu o lk).e e σ).run e fun x σ1 => (attU G lk m F.A (fr && match o with | .var _ => true | _ => false) σ1 x g v).run e fun _ σ2 => .nx e σ2 false
def forU (tg : List Nat) (sole : Bool) (body : UE → Cs → PR) : List U → UE → Cs → PR
  | [], e, σ => .nx e σ false
  | x :: r, e, σ => match bindTU tg sole x e with
      | some e' => (body e' σ).andThen (forU tg sole body r)
      | none => .bad
def whlU (c : UE → Cs → PO Bool) (body : UE → Cs → PR) : Nat → UE → Cs → PR
  | 0, _, _ => .bad
  | n + 1, e, σ => (c e σ).run e fun b σ1 => if b = true then (body e σ1).andThen (whlU c body n) else .nx e σ1 false
def raiU (c : Nat) (vs : List U) (e : UE) (σ : Cs) : PR := match G.exi c with
  | none => if vs.length = 1 then .exc c [] e σ false else .bad
  | some fs => if vs.length = fs.length ∧ fs ≠ [] ∧ flL vs = true then .exc c (fs.zip vs).reverse e σ false else .bad
def endTryU (nm : Option Nat) (r : PR) : PR := match r with
  | .nx e σ z => .nx (match nm with | some i => e.set i none | none => e) σ z
  | .rt d σ z => .rt d σ z
  | _ => .bad
def pS : S → Option (Nat × List (Str × U)) → List Nat → UE → Cs → PR
  | .nil, _, _, e, σ => .nx e σ false
  | .cons x y, cu, lk, e, σ => (pS x cu lk e σ).andThen (pS y cu lk)
  | .asg t x, cu, lk, e, σ => ((pv G F pc m cu x lk).e e σ).run e fun v σ1 => asgU G F pc m f cu lk t (freshE F x) v e σ1
  | .ex x, cu, lk, e, σ => ((pv G F pc m cu x lk).e e σ).run e fun _ σ1 => .nx e σ1 false
  | .ret x, cu, lk, e, σ => ((pv G F pc m cu x lk).e e σ).run e fun v σ1 => .rt v σ1 false
  | .retN, _, _, _, σ => .rt .non σ false
  | .pas, _, _, e, σ => .nx e σ false
  | .ite c a b, cu, lk, e, σ => ((pv G F pc m cu c lk).t e σ).run e fun t σ1 => if t = true then pS a cu lk e σ1 else pS b cu lk e σ1
  | .for_ tg sole it body, cu, lk, e, σ => ((pv G F pc m cu it lk).i e σ).run e fun s σ1 => forU tg sole (pS body cu (s.lock lk)) s.xs e σ1
  | .whl c body, cu, lk, e, σ => whlU ((pv G F pc m cu c lk).t) (pS body cu lk) 100000 e σ
  | .rai c es, cu, lk, e, σ => ((pv G F pc m cu es lk).a e σ).run e fun vs σ1 => raiU G c vs e σ1
  | .tri body c nm suite, cu, lk, e, σ => match pS body cu lk e σ with
    | .exc k fs e1 σ1 z => if G.isc k = true then
        if G.sub k c = true then (endTryU nm (pS suite (match nm with | some _ => some (k, fs) | none => none) lk (match nm with | some i => e1.set i none | none => e1) σ1)).or z else .exc k fs e1 σ1 z
      else .bad
    | r => r
end
/-! ### calls -/
def isNew (m : Nat) : U → Bool
  | .cel k => decide (m ≤ k)
  | _ => false
def endV (fre : Bool) (m : Nat) (u : U) (σ : Cs) (z : Bool) : PO U :=
  if fre = true ∧ ¬ isNew m u = true then .bad
  else if lcL m (σ.take m) = true then match frz m σ 4 u with
    | some w => .ok w (σ.take m) z
    | none => .bad
  else .ok u σ z
def endR (fre : Bool) (m : Nat) : PR → PO U
  | .nx _ σ z => endV fre m .non σ z
  | .rt u σ z => endV fre m u σ z
  | .exc c fs _ σ z => if (z = false ∨ m = 0) ∧ lcL m (σ.take m) = true then .exc c fs (σ.take m) false else .bad
  | .bad => .bad
def pcallN (G : Gl) (F : Fl) (P : Nat → Option Def) : Nat → Pc
  | 0, _, _, _ => .bad
  | n + 1, f, vs, σ => match P f with
    | some d => if vs.length = d.np then
        endR (F.fre f) σ.length (pS G F (pcallN G F P n) σ.length f d.body none [] (vs.map some ++ List.replicate (d.ns - vs.length) none) σ)
      else .bad
    | none => .bad
end Dv
end
end

section
set_option Elab.async false
set_option autoImplicit false
set_option linter.all false
set_option maxRecDepth 100000
set_option maxHeartbeats 2000000
/-! PvB: how the values stand in the store; a call's end. -/
namespace Dv
open PySem L2
section
variable (g : Nat → Option Ob) (ns : List Nat)
mutual
/-- u stands as d -/
def Rp : U → D → Prop
  | .non, d => d = .non
  | .bl b, d => d = .bl b
  | .int i, d => d = .int i
  | .str s, d => d = .str s
  | .rol xs, d => d = .rol xs
  | .ktp xs, d => d = .ktp xs
  | .tup us, d => ∃ ds, d = .tup ds ∧ Rps us ds
  | .lst us, d => ∃ n ds, d = .loc n ∧ g n = some (.lst ds) ∧ Rps us ds
  | .dct ks us, d => ∃ n kvs, d = .loc n ∧ g n = some (.dct kvs) ∧ kvs.map (·.1) = ks ∧ Rps us (kvs.map (·.2))
  | .dtt ks us, d => ∃ n kvs, d = .loc n ∧ g n = some (.dtt kvs) ∧ kvs.map (·.1) = ks ∧ Rps us (kvs.map (·.2))
  | .ins c fs us, d => ∃ n kvs, d = .loc n ∧ g n = some (.ins c kvs) ∧ kvs.map (·.1) = fs ∧ Rps us (kvs.map (·.2))
  | .cel k, d => ∃ n, d = .loc n ∧ ns[k]? = some n
def Rps : List U → List D → Prop
  | [], ds => ds = []
  | u :: us, ds => ∃ d r, ds = d :: r ∧ Rp u d ∧ Rps us r
end
/-- a cell's contents -/
def Rc : U → Ob → Prop
  | .lst us, o => ∃ ds, o = .lst ds ∧ Rps g ns us ds
  | .dct ks us, o => ∃ kvs, o = .dct kvs ∧ kvs.map (·.1) = ks ∧ Rps g ns us (kvs.map (·.2))
  | .dtt ks us, o => ∃ kvs, o = .dtt kvs ∧ kvs.map (·.1) = ks ∧ Rps g ns us (kvs.map (·.2))
  | .ins c fs us, o => ∃ kvs, o = .ins c kvs ∧ kvs.map (·.1) = fs ∧ Rps g ns us (kvs.map (·.2))
  | _, _ => False
end
/-- what an object holds -/
def Ob.its : Ob → List D
  | .lst xs => xs
  | .dct kvs => kvs.map (·.2)
  | .dtt kvs => kvs.map (·.2)
  | .ins _ fs => fs.map (·.2)
def U.its : U → List U
  | .lst us => us
  | .dct _ us => us
  | .dtt _ us => us
  | .ins _ _ us => us
  | _ => []
theorem Rc.its {g : Nat → Option Ob} {ns : List Nat} {u : U} {o : Ob} (h : Rc g ns u o) : Rps g ns u.its o.its := by
  cases u <;> simp only [Rc] at h <;> first | exact h.elim | (obtain ⟨ds, rfl, r⟩ := h; exact r) | (obtain ⟨kvs, rfl, _, r⟩ := h; exact r)
theorem Rc.with {g g' : Nat → Option Ob} {ns ns' : List Nat} {u : U} {o : Ob} (h : Rc g ns u o) (r : Rps g' ns' u.its o.its) : Rc g' ns' u o := by
  cases u <;> simp only [Rc] at h ⊢ <;> first | exact h.elim | (obtain ⟨ds, rfl, _⟩ := h; exact ⟨ds, rfl, r⟩) | (obtain ⟨kvs, rfl, e, _⟩ := h; exact ⟨kvs, rfl, e, r⟩)
theorem Rp.con {g : Nat → Option Ob} {ns : List Nat} {u : U} {n : Nat} {o : Ob} (e : g n = some o) (h : Rc g ns u o) : Rp g ns u (.loc n) := by
  cases u <;> simp only [Rc] at h <;> simp only [Rp] <;> first | exact h.elim | (obtain ⟨ds, rfl, r⟩ := h; exact ⟨n, ds, rfl, e, r⟩) | (obtain ⟨kvs, rfl, e', r⟩ := h; exact ⟨n, kvs, rfl, e, e', r⟩)
/-! ### more of the store, more cells -/
mutual
theorem Rp.mono {g g' : Nat → Option Ob} {ns ns' : List Nat} (hg : ∀ n o, g n = some o → g' n = some o) (hn : ∀ k n : Nat, ns[k]? = some n → ns'[k]? = some n) : ∀ (u : U) (d : D), Rp g ns u d → Rp g' ns' u d
  | .non, _, h => h
  | .bl _, _, h => h
  | .int _, _, h => h
  | .str _, _, h => h
  | .rol _, _, h => h
  | .ktp _, _, h => h
  | .tup us, d, h => by
    obtain ⟨ds, e, r⟩ := h
    exact ⟨ds, e, Rps.mono hg hn us ds r⟩
  | .lst us, d, h => by
    obtain ⟨n, ds, e, e1, r⟩ := h
    exact ⟨n, ds, e, hg _ _ e1, Rps.mono hg hn us ds r⟩
  | .dct ks us, d, h => by
    obtain ⟨n, ds, e, e1, e2, r⟩ := h
    exact ⟨n, ds, e, hg _ _ e1, e2, Rps.mono hg hn us _ r⟩
  | .dtt ks us, d, h => by
    obtain ⟨n, ds, e, e1, e2, r⟩ := h
    exact ⟨n, ds, e, hg _ _ e1, e2, Rps.mono hg hn us _ r⟩
  | .ins c ks us, d, h => by
    obtain ⟨n, ds, e, e1, e2, r⟩ := h
    exact ⟨n, ds, e, hg _ _ e1, e2, Rps.mono hg hn us _ r⟩
  | .cel k, d, h => by
    obtain ⟨n, e, e1⟩ := h
    exact ⟨n, e, hn _ _ e1⟩
theorem Rps.mono {g g' : Nat → Option Ob} {ns ns' : List Nat} (hg : ∀ n o, g n = some o → g' n = some o) (hn : ∀ k n : Nat, ns[k]? = some n → ns'[k]? = some n) : ∀ (us : List U) (ds : List D), Rps g ns us ds → Rps g' ns' us ds
  | [], _, h => h
  | u :: us, ds, h => by
    obtain ⟨d, r, e, h1, h2⟩ := h
    exact ⟨d, r, e, Rp.mono hg hn u d h1, Rps.mono hg hn us r h2⟩
end
mutual
/-- nothing of the store -/
theorem Rp.flat {g g' : Nat → Option Ob} {ns ns' : List Nat} : ∀ (u : U) (d : D), u.fl = true → Rp g ns u d → Rp g' ns' u d ∧ d = u.fd ∧ d.locs 0 = []
  | .non, _, _, h => ⟨h, h, by cases h; rfl⟩
  | .bl _, _, _, h => ⟨h, h, by cases h; rfl⟩
  | .int _, _, _, h => ⟨h, h, by cases h; rfl⟩
  | .str _, _, _, h => ⟨h, h, by cases h; rfl⟩
  | .rol _, _, _, h => ⟨h, h, by cases h; rfl⟩
  | .ktp _, _, _, h => ⟨h, h, by cases h; rfl⟩
  | .tup us, d, f, h => by
    obtain ⟨ds, rfl, r⟩ := h
    obtain ⟨h1, h2, h3⟩ := Rps.flat (g' := g') (ns' := ns') us ds (by simpa only [U.fl] using f) r
    exact ⟨⟨ds, rfl, h1⟩, by simp only [U.fd]; rw [h2], by simp only [D.locs]; exact h3⟩
  | .lst us, d, f, h => by cases f
  | .dct ks us, d, f, h => by cases f
  | .dtt ks us, d, f, h => by cases f
  | .ins c ks us, d, f, h => by cases f
  | .cel k, d, f, h => by cases f
theorem Rps.flat {g g' : Nat → Option Ob} {ns ns' : List Nat} : ∀ (us : List U) (ds : List D), flL us = true → Rps g ns us ds → Rps g' ns' us ds ∧ ds = fdL us ∧ locsL 0 ds = []
  | [], _, _, h => ⟨h, h, by cases h; rfl⟩
  | u :: us, ds, f, h => by
    obtain ⟨d, r, rfl, h1, h2⟩ := h
    obtain ⟨f1, f2⟩ := Bool.and_eq_true_iff.mp (show (u.fl && flL us) = true from f)
    obtain ⟨a1, a2, a3⟩ := Rp.flat (g' := g') (ns' := ns') u d f1 h1
    obtain ⟨b1, b2, b3⟩ := Rps.flat (g' := g') (ns' := ns') us r f2 h2
    exact ⟨⟨d, r, rfl, a1, b1⟩, by simp only [fdL]; rw [← a2, ← b2], by simp only [locsL]; rw [a3, b3]; rfl⟩
end
mutual
theorem Rp.ofl {g : Nat → Option Ob} {ns : List Nat} : ∀ (u : U), u.fl = true → Rp g ns u u.fd
  | .non, _ => rfl
  | .bl _, _ => rfl
  | .int _, _ => rfl
  | .str _, _ => rfl
  | .rol _, _ => rfl
  | .ktp _, _ => rfl
  | .tup us, f => by
    simp only [U.fd, Rp]
    exact ⟨_, rfl, Rps.ofl us (by simpa only [U.fl] using f)⟩
  | .lst us, f => by cases f
  | .dct ks us, f => by cases f
  | .dtt ks us, f => by cases f
  | .ins c ks us, f => by cases f
  | .cel k, f => by cases f
theorem Rps.ofl {g : Nat → Option Ob} {ns : List Nat} : ∀ (us : List U), flL us = true → Rps g ns us (fdL us)
  | [], _ => rfl
  | u :: us, f => by
    obtain ⟨f1, f2⟩ := Bool.and_eq_true_iff.mp (show (u.fl && flL us) = true from f)
    exact ⟨_, _, rfl, Rp.ofl u f1, Rps.ofl us f2⟩
end
mutual
/-- other cells above m -/
theorem Rp.low {g : Nat → Option Ob} {ns ns' : List Nat} {m : Nat} (hn : ∀ k n : Nat, k < m → ns[k]? = some n → ns'[k]? = some n) : ∀ (u : U) (d : D), u.lc m = true → Rp g ns u d → Rp g ns' u d
  | .non, _, _, h => h
  | .bl _, _, _, h => h
  | .int _, _, _, h => h
  | .str _, _, _, h => h
  | .rol _, _, _, h => h
  | .ktp _, _, _, h => h
  | .tup us, d, l, h => by
    obtain ⟨ds, e, r⟩ := h
    exact ⟨ds, e, Rps.low hn us ds (by simpa only [U.lc] using l) r⟩
  | .lst us, d, l, h => by
    obtain ⟨n, ds, e, e1, r⟩ := h
    exact ⟨n, ds, e, e1, Rps.low hn us ds (by simpa only [U.lc] using l) r⟩
  | .dct ks us, d, l, h => by
    obtain ⟨n, ds, e, e1, e2, r⟩ := h
    exact ⟨n, ds, e, e1, e2, Rps.low hn us _ (by simpa only [U.lc] using l) r⟩
  | .dtt ks us, d, l, h => by
    obtain ⟨n, ds, e, e1, e2, r⟩ := h
    exact ⟨n, ds, e, e1, e2, Rps.low hn us _ (by simpa only [U.lc] using l) r⟩
  | .ins c ks us, d, l, h => by
    obtain ⟨n, ds, e, e1, e2, r⟩ := h
    exact ⟨n, ds, e, e1, e2, Rps.low hn us _ (by simpa only [U.lc] using l) r⟩
  | .cel k, d, l, h => by
    obtain ⟨n, e, e1⟩ := h
    exact ⟨n, e, hn _ _ (by simpa only [U.lc, decide_eq_true_eq] using l) e1⟩
theorem Rps.low {g : Nat → Option Ob} {ns ns' : List Nat} {m : Nat} (hn : ∀ k n : Nat, k < m → ns[k]? = some n → ns'[k]? = some n) : ∀ (us : List U) (ds : List D), lcL m us = true → Rps g ns us ds → Rps g ns' us ds
  | [], _, _, h => h
  | u :: us, ds, l, h => by
    obtain ⟨d, r, e, h1, h2⟩ := h
    obtain ⟨f1, f2⟩ := Bool.and_eq_true_iff.mp (show (u.lc m && lcL m us) = true from l)
    exact ⟨d, r, e, Rp.low hn u d f1 h1, Rps.low hn us r f2 h2⟩
end
theorem Rps.len {g : Nat → Option Ob} {ns : List Nat} : ∀ {us : List U} {ds : List D}, Rps g ns us ds → us.length = ds.length
  | [], _, h => by cases h; rfl
  | u :: us, ds, h => by
    obtain ⟨d, r, rfl, _, h2⟩ := h
    rw [List.length_cons, List.length_cons, Rps.len h2]
theorem Rps.get {g : Nat → Option Ob} {ns : List Nat} : ∀ {us : List U} {ds : List D}, Rps g ns us ds → ∀ {k : Nat} {u : U}, us[k]? = some u → ∃ d, ds[k]? = some d ∧ Rp g ns u d
  | [], _, h, k, u, e => by simp at e
  | u :: us, ds, h, 0, v, e => by
    obtain ⟨d, r, rfl, h1, h2⟩ := h
    obtain rfl : u = v := by simpa using e
    exact ⟨d, rfl, h1⟩
  | u :: us, ds, h, k + 1, v, e => by
    obtain ⟨d, r, rfl, h1, h2⟩ := h
    obtain ⟨d', e', h'⟩ := Rps.get h2 (k := k) (u := v) (by simpa using e)
    exact ⟨d', by simpa using e', h'⟩
theorem Rps.app {g : Nat → Option Ob} {ns : List Nat} {vs : List U} {es : List D} (h' : Rps g ns vs es) : ∀ {us : List U} {ds : List D}, Rps g ns us ds → Rps g ns (us ++ vs) (ds ++ es)
  | [], _, h => by cases h; exact h'
  | u :: us, ds, h => by
    obtain ⟨d, r, rfl, h1, h2⟩ := h
    exact ⟨d, r ++ es, rfl, h1, Rps.app h' h2⟩
theorem Rps.one {g : Nat → Option Ob} {ns : List Nat} {u : U} {d : D} (h : Rp g ns u d) : Rps g ns [u] [d] := ⟨d, [], rfl, h, rfl⟩
theorem Rps.of_get {g : Nat → Option Ob} {ns : List Nat} : ∀ {us : List U} {ds : List D}, us.length = ds.length → (∀ (k : Nat) (u : U) (d : D), us[k]? = some u → ds[k]? = some d → Rp g ns u d) → Rps g ns us ds
  | [], [], _, _ => rfl
  | [], _ :: _, h, _ => by simp at h
  | _ :: _, [], h, _ => by simp at h
  | u :: us, d :: ds, h, k => ⟨d, ds, rfl, k 0 u d rfl rfl, Rps.of_get (by simpa using h) fun j v e h1 h2 => k (j + 1) v e (by simpa using h1) (by simpa using h2)⟩
/-! ### the store with holes -/
def hole (M : Store) (Z : List Nat) : Nat → Option Ob := fun n => if n ∈ Z then none else M[n]?
theorem hole_some {M : Store} {Z : List Nat} {n : Nat} {o : Ob} : hole M Z n = some o ↔ n ∉ Z ∧ M[n]? = some o := by
  unfold hole
  by_cases h : n ∈ Z <;> simp [h]
def Closed (M : Store) : Prop := ∀ (n : Nat) (o : Ob), M[n]? = some o → undL M.length o.its = true
theorem und_its (o : Ob) (n : Nat) : o.und n = undL n o.its := by cases o <;> simp only [Ob.und, Ob.its, undL_all, List.all_map] <;> rfl
theorem locs_its (o : Ob) (n : Nat) : o.locs n = locsL n o.its := by cases o <;> rfl
mutual
theorem und_iff (n : Nat) : ∀ d : D, d.und n = true ↔ ∀ k ∈ d.locs 0, k < n
  | .non => by simp [D.und, D.locs]
  | .bl b => by simp [D.und, D.locs]
  | .int i => by simp [D.und, D.locs]
  | .str z => by simp [D.und, D.locs]
  | .rol xs => by simp [D.und, D.locs]
  | .ktp xs => by simp [D.und, D.locs]
  | .loc k => by simp [D.und, D.locs]
  | .tup ds => by simp only [D.und, D.locs]; exact undL_iff n ds
theorem undL_iff (n : Nat) : ∀ ds : List D, undL n ds = true ↔ ∀ k ∈ locsL 0 ds, k < n
  | [] => by simp [undL, locsL]
  | d :: ds => by
    simp only [undL, locsL, Bool.and_eq_true, List.mem_append]
    rw [und_iff n d, undL_iff n ds]
    constructor
    · rintro ⟨h1, h2⟩ k (h | h)
      · exact h1 k h
      · exact h2 k h
    · exact fun h => ⟨fun k hk => h k (.inl hk), fun k hk => h k (.inr hk)⟩
end
mutual
theorem locs_of_und (n : Nat) : ∀ d : D, d.und n = true → d.locs n = []
  | .non, _ => rfl
  | .bl b, _ => rfl
  | .int i, _ => rfl
  | .str z, _ => rfl
  | .rol xs, _ => rfl
  | .ktp xs, _ => rfl
  | .loc k, h => by
    have : k < n := by simpa [D.und] using h
    simp [D.locs, this]
  | .tup ds, h => by
    simp only [D.locs]
    exact locsL_of_und n ds (by simpa [D.und] using h)
theorem locsL_of_und (n : Nat) : ∀ ds : List D, undL n ds = true → locsL n ds = []
  | [], _ => rfl
  | d :: ds, h => by
    obtain ⟨h1, h2⟩ := Bool.and_eq_true_iff.mp (show (d.und n && undL n ds) = true from h)
    simp only [locsL, locs_of_und n d h1, locsL_of_und n ds h2, List.append_nil]
end
mutual
theorem ren_of_und (n : Nat) (f : Nat → Nat) (hf : ∀ k, k < n → f k = k) : ∀ d : D, d.und n = true → d.ren f = d
  | .non, _ => rfl
  | .bl b, _ => rfl
  | .int i, _ => rfl
  | .str z, _ => rfl
  | .rol xs, _ => rfl
  | .ktp xs, _ => rfl
  | .loc k, h => by simp only [D.ren]; rw [hf k (by simpa [D.und] using h)]
  | .tup ds, h => by
    simp only [D.ren]
    rw [renL_of_und n f hf ds (by simpa [D.und] using h)]
theorem renL_of_und (n : Nat) (f : Nat → Nat) (hf : ∀ k, k < n → f k = k) : ∀ ds : List D, undL n ds = true → renL f ds = ds
  | [], _ => rfl
  | d :: ds, h => by
    obtain ⟨h1, h2⟩ := Bool.and_eq_true_iff.mp (show (d.und n && undL n ds) = true from h)
    simp only [renL, ren_of_und n f hf d h1, renL_of_und n f hf ds h2]
end
mutual
theorem und_of_locs (n m : Nat) (f : Nat → Nat) (h0 : ∀ k, k < n → f k < m) : ∀ d : D, (∀ k ∈ d.locs n, f k < m) → (d.ren f).und m = true
  | .non, _ => rfl
  | .bl b, _ => rfl
  | .int i, _ => rfl
  | .str z, _ => rfl
  | .rol xs, _ => rfl
  | .ktp xs, _ => rfl
  | .loc k, h => by
    simp only [D.ren, D.und, decide_eq_true_eq]
    by_cases hk : k < n
    · exact h0 k hk
    · exact h k (by simp [D.locs, hk])
  | .tup ds, h => by
    simp only [D.ren, D.und]
    exact undL_of_locs n m f h0 ds (by simpa [D.locs] using h)
theorem undL_of_locs (n m : Nat) (f : Nat → Nat) (h0 : ∀ k, k < n → f k < m) : ∀ ds : List D, (∀ k ∈ locsL n ds, f k < m) → undL m (renL f ds) = true
  | [], _ => rfl
  | d :: ds, h => by
    simp only [renL, undL, Bool.and_eq_true]
    exact ⟨und_of_locs n m f h0 d fun k hk => h k (by simp [locsL, hk]), undL_of_locs n m f h0 ds fun k hk => h k (by simp [locsL, hk])⟩
end
theorem undL_mono {n m : Nat} (h : n ≤ m) {ds : List D} (u : undL n ds = true) : undL m ds = true := (undL_iff m ds).mpr fun k hk => Nat.lt_of_lt_of_le ((undL_iff n ds).mp u k hk) h
mutual
/-- what stands, stands in the store -/
theorem Rp.und {M : Store} {Z ns : List Nat} (hn : ∀ n ∈ ns, n < M.length) : ∀ (u : U) (d : D), Rp (hole M Z) ns u d → d.und M.length = true
  | .non, _, h => by cases h; rfl
  | .bl _, _, h => by cases h; rfl
  | .int _, _, h => by cases h; rfl
  | .str _, _, h => by cases h; rfl
  | .rol _, _, h => by cases h; rfl
  | .ktp _, _, h => by cases h; rfl
  | .tup us, d, h => by
    obtain ⟨ds, rfl, r⟩ := h
    simp only [D.und]
    exact Rps.und hn us ds r
  | .lst us, d, h => by
    obtain ⟨n, ds, rfl, e1, r⟩ := h
    have := (List.getElem?_eq_some_iff.mp (hole_some.mp e1).2).1
    simpa [D.und] using this
  | .dct ks us, d, h => by
    obtain ⟨n, ds, rfl, e1, e2, r⟩ := h
    have := (List.getElem?_eq_some_iff.mp (hole_some.mp e1).2).1
    simpa [D.und] using this
  | .dtt ks us, d, h => by
    obtain ⟨n, ds, rfl, e1, e2, r⟩ := h
    have := (List.getElem?_eq_some_iff.mp (hole_some.mp e1).2).1
    simpa [D.und] using this
  | .ins c ks us, d, h => by
    obtain ⟨n, ds, rfl, e1, e2, r⟩ := h
    have := (List.getElem?_eq_some_iff.mp (hole_some.mp e1).2).1
    simpa [D.und] using this
  | .cel k, d, h => by
    obtain ⟨n, rfl, e1⟩ := h
    have := hn n (List.mem_of_getElem? e1)
    simpa [D.und] using this
theorem Rps.und {M : Store} {Z ns : List Nat} (hn : ∀ n ∈ ns, n < M.length) : ∀ (us : List U) (ds : List D), Rps (hole M Z) ns us ds → undL M.length ds = true
  | [], _, h => by cases h; rfl
  | u :: us, ds, h => by
    obtain ⟨d, r, rfl, h1, h2⟩ := h
    simp only [undL, Bool.and_eq_true]
    exact ⟨Rp.und hn u d h1, Rps.und hn us r h2⟩
end
end Dv
end

section
set_option Elab.async false
set_option autoImplicit false
set_option linter.all false
set_option maxRecDepth 100000
set_option maxHeartbeats 2000000
/-! PvC: a call's end, by values; ends that go together. -/
namespace Dv
open PySem L2
theorem fm_get {α : Type} (g : Nat → Option α) (L : List Nat) (h : ∀ m ∈ L, ∃ a, g m = some a) (j : Nat) : (L.filterMap g)[j]? = (L[j]?).bind g := by
  induction L generalizing j with
  | nil => simp
  | cons m L ih =>
    obtain ⟨a, ea⟩ := h m List.mem_cons_self
    rw [List.filterMap_cons_some ea]
    cases j with
    | zero => simp [ea]
    | succ j => simpa using ih (fun m hm => h m (List.mem_cons_of_mem _ hm)) j
theorem fm_len {α : Type} (g : Nat → Option α) (L : List Nat) (h : ∀ m ∈ L, ∃ a, g m = some a) : (L.filterMap g).length = L.length := by
  induction L with
  | nil => rfl
  | cons m L ih =>
    obtain ⟨a, ea⟩ := h m List.mem_cons_self
    rw [List.filterMap_cons_some ea, List.length_cons, List.length_cons, ih fun m hm => h m (List.mem_cons_of_mem _ hm)]
theorem its_ren (f : Nat → Nat) (o : Ob) : (o.ren f).its = renL f o.its := by
  cases o <;> simp only [Ob.ren, Ob.its, renL_map, List.map_map] <;> rfl
section
variable {g g' : Nat → Option Ob} {ns : List Nat} {n : Nat} {f : Nat → Nat} {R : List Nat}
mutual
theorem Rp.ren (hns : ∀ a ∈ ns, f a = a) (hg : ∀ k o, g k = some o → (k < n ∨ k ∈ R) → g' (f k) = some (o.ren f) ∧ ∀ x ∈ locsL n o.its, x ∈ R) : ∀ (u : U) (d : D), (∀ k ∈ d.locs n, k ∈ R) → Rp g ns u d → Rp g' ns u (d.ren f)
  | .non, _, _, h => by cases h; rfl
  | .bl _, _, _, h => by cases h; rfl
  | .int _, _, _, h => by cases h; rfl
  | .str _, _, _, h => by cases h; rfl
  | .rol _, _, _, h => by cases h; rfl
  | .ktp _, _, _, h => by cases h; rfl
  | .tup us, d, l, h => by
    obtain ⟨ds, rfl, r⟩ := h
    exact ⟨_, rfl, Rps.ren hns hg us ds (by simpa only [D.locs] using l) r⟩
  | .lst us, d, l, h => by
    obtain ⟨k, ds, rfl, e1, r⟩ := h
    have hk : k < n ∨ k ∈ R := by
      by_cases hk : k < n
      · exact .inl hk
      · exact .inr (l k (by simp [D.locs, hk]))
    obtain ⟨a1, a2⟩ := hg k _ e1 hk
    exact ⟨f k, renL f ds, rfl, a1, Rps.ren hns hg us ds a2 r⟩
  | .dct ks us, d, l, h => by
    obtain ⟨k, ds, rfl, e1, e2, r⟩ := h
    have hk : k < n ∨ k ∈ R := by
      by_cases hk : k < n
      · exact .inl hk
      · exact .inr (l k (by simp [D.locs, hk]))
    obtain ⟨a1, a2⟩ := hg k _ e1 hk
    refine ⟨f k, _, rfl, a1, by rw [List.map_map]; exact e2, ?_⟩
    have := Rps.ren hns hg us _ a2 r
    rw [← its_ren f (.dct ds)] at this
    exact this
  | .dtt ks us, d, l, h => by
    obtain ⟨k, ds, rfl, e1, e2, r⟩ := h
    have hk : k < n ∨ k ∈ R := by
      by_cases hk : k < n
      · exact .inl hk
      · exact .inr (l k (by simp [D.locs, hk]))
    obtain ⟨a1, a2⟩ := hg k _ e1 hk
    refine ⟨f k, _, rfl, a1, by rw [List.map_map]; exact e2, ?_⟩
    have := Rps.ren hns hg us _ a2 r
    rw [← its_ren f (.dtt ds)] at this
    exact this
  | .ins c ks us, d, l, h => by
    obtain ⟨k, ds, rfl, e1, e2, r⟩ := h
    have hk : k < n ∨ k ∈ R := by
      by_cases hk : k < n
      · exact .inl hk
      · exact .inr (l k (by simp [D.locs, hk]))
    obtain ⟨a1, a2⟩ := hg k _ e1 hk
    refine ⟨f k, _, rfl, a1, by rw [List.map_map]; exact e2, ?_⟩
    have := Rps.ren hns hg us _ a2 r
    rw [← its_ren f (.ins c ds)] at this
    exact this
  | .cel k, d, l, h => by
    obtain ⟨a, rfl, e1⟩ := h
    exact ⟨a, by simp only [D.ren]; rw [hns a (List.mem_of_getElem? e1)], e1⟩
theorem Rps.ren (hns : ∀ a ∈ ns, f a = a) (hg : ∀ k o, g k = some o → (k < n ∨ k ∈ R) → g' (f k) = some (o.ren f) ∧ ∀ x ∈ locsL n o.its, x ∈ R) : ∀ (us : List U) (ds : List D), (∀ k ∈ locsL n ds, k ∈ R) → Rps g ns us ds → Rps g' ns us (renL f ds)
  | [], _, _, h => by cases h; rfl
  | u :: us, ds, l, h => by
    obtain ⟨d, r, rfl, h1, h2⟩ := h
    exact ⟨_, _, rfl, Rp.ren hns hg u d (fun k hk => l k (by simp [locsL, hk])) h1, Rps.ren hns hg us r (fun k hk => l k (by simp [locsL, hk])) h2⟩
end
end
theorem ren_id {n : Nat} {f : Nat → Nat} (hf : ∀ k, k < n → f k = k) {o : Ob} (h : undL n o.its = true) : o.ren f = o := by
  have hm : ∀ {l : List D}, undL n l = true → l.map (D.ren f) = l := fun {l} h => by rw [← renL_map]; exact renL_of_und n f hf l h
  have key : ∀ {κ : Type} (kvs : List (κ × D)), undL n (kvs.map (·.2)) = true → (kvs.map fun kv => (kv.1, kv.2.ren f)) = kvs := fun kvs h => by
    induction kvs with
    | nil => rfl
    | cons kv r ih =>
      obtain ⟨h1, h2⟩ := Bool.and_eq_true_iff.mp (show (kv.2.und n && undL n (r.map (·.2))) = true from h)
      rw [List.map_cons, ih h2, ren_of_und n f hf kv.2 h1]
  cases o with
  | lst xs => simp only [Ob.ren]; rw [renL_of_und n f hf xs h]
  | dct kvs => simp only [Ob.ren]; rw [key kvs h]
  | dtt kvs => simp only [Ob.ren]; rw [key kvs h]
  | ins c kvs => simp only [Ob.ren]; rw [key kvs h]
/-- a call's end keeps what stands -/
theorem fin_rp {Z ns : List Nat} {M M1 : Store} {d : D} {u : U} (hc : Closed M) (hc1 : Closed M1) (hl : M.length ≤ M1.length) (hns : ∀ n ∈ ns, n < M.length) (hZ : ∀ n ∈ Z, n < M.length) (h : Rp (hole M1 Z) ns u d) :
    ∃ d' M', fin M d M1 = .ok d' M' ∧ M.length ≤ M'.length ∧ Closed M' ∧ (∀ n, n < M.length → M'[n]? = M1[n]?) ∧ Rp (hole M' Z) ns u d' ∧
      (∀ v o n, n < M.length → M1[n]? = some o → Rc (hole M1 Z) ns v o → Rc (hole M' Z) ns v o) ∧ (∀ n, d = .loc n → M.length ≤ n → ∃ n', d' = .loc n' ∧ M.length ≤ n') := by
  have same : ∃ d' M', Out.ok d M1 = Out.ok d' M' ∧ M.length ≤ M'.length ∧ Closed M' ∧ (∀ n, n < M.length → M'[n]? = M1[n]?) ∧ Rp (hole M' Z) ns u d' ∧
      (∀ v o n, n < M.length → M1[n]? = some o → Rc (hole M1 Z) ns v o → Rc (hole M' Z) ns v o) ∧ (∀ n, d = .loc n → M.length ≤ n → ∃ n', d' = .loc n' ∧ M.length ≤ n') :=
    ⟨d, M1, rfl, hl, hc1, fun _ _ => rfl, h, fun _ _ _ _ _ x => x, fun n e l => ⟨n, e, l⟩⟩
  unfold fin
  by_cases o : oldOk M M1 = true
  · rw [if_pos o]
    simp only
    generalize hR : grow M.length M1 (grow M.length M1 (d.locs M.length).eraseDups) = T
    by_cases k : (keepsR M.length M1 T && (d.locs M.length).all fun k => T.contains k) = true
    · rw [if_pos k]
      obtain ⟨k1, k2⟩ := Bool.and_eq_true_iff.mp k
      obtain ⟨k1, k3⟩ := Bool.and_eq_true_iff.mp k1
      have nd : T.Nodup := of_decide_eq_true k1
      have hT : ∀ m ∈ T, M.length ≤ m ∧ ∃ ob, M1[m]? = some ob ∧ ∀ k ∈ locsL M.length ob.its, k ∈ T := fun m hm => by
        obtain ⟨q1, q2⟩ := Bool.and_eq_true_iff.mp (List.all_eq_true.mp k3 m hm)
        refine ⟨of_decide_eq_true q1, ?_⟩
        split at q2
        · rename_i ob e
          refine ⟨ob, e, fun k hk => ?_⟩
          rw [← locs_its] at hk
          simpa using List.all_eq_true.mp q2 k hk
        · cases q2
      have old : ∀ i o, i < M.length → M1[i]? = some o → undL M.length o.its = true := fun i ob hi e => by
        have q : M.length ≤ M1.length ∧ ∀ i o, i < M.length → M1[i]? = some o → M[i]? = some o ∨ o.und M.length = true := by
          have o' := o
          simp only [oldOk, decide_eq_true_eq] at o'
          exact o'
        rcases q.2 i ob hi e with q | q
        · exact hc i ob q
        · rw [und_its] at q
          exact q
      have hM : ∀ m ∈ T, ∃ a, ((M1[m]?).map fun o => o.ren (renF M.length T)) = some a := fun m hm => by
        obtain ⟨_, ob, e, _⟩ := hT m hm
        exact ⟨_, by rw [e]; rfl⟩
      have lt : (M1.take M.length).length = M.length := by rw [List.length_take]; omega
      have fid : ∀ k, k < M.length → renF M.length T k = k := fun k hk => by unfold renF; rw [if_pos hk]
      have fhi : ∀ k ∈ T, renF M.length T k = M.length + T.idxOf k := fun k hk => by unfold renF; rw [if_neg (by have := (hT k hk).1; omega)]
      have len : (M1.take M.length ++ T.filterMap fun m => (M1[m]?).map fun o => o.ren (renF M.length T)).length = M.length + T.length := by rw [List.length_append, lt, fm_len _ _ hM]
      have lowG : ∀ i, i < M.length → (M1.take M.length ++ T.filterMap fun m => (M1[m]?).map fun o => o.ren (renF M.length T))[i]? = M1[i]? := fun i hi => by
        rw [List.getElem?_append_left (by omega), List.getElem?_take_of_lt hi]
      have highG : ∀ k ∈ T, ∀ o, M1[k]? = some o → (M1.take M.length ++ T.filterMap fun m => (M1[m]?).map fun o => o.ren (renF M.length T))[renF M.length T k]? = some (o.ren (renF M.length T)) := fun k hk ob e => by
        rw [fhi k hk, List.getElem?_append_right (by omega), lt, Nat.add_sub_cancel_left, fm_get _ _ hM, idx_get hk]
        show (M1[k]?).map _ = _
        rw [e]
        rfl
      have fT : ∀ k ∈ T, renF M.length T k < M.length + T.length := fun k hk => by rw [fhi k hk]; have := List.idxOf_lt_length_of_mem hk; omega
      generalize hN : (M1.take M.length ++ T.filterMap fun m => (M1[m]?).map fun o => o.ren (renF M.length T)) = N at *
      have hg : ∀ k o, hole M1 Z k = some o → (k < M.length ∨ k ∈ T) → hole N Z (renF M.length T k) = some (o.ren (renF M.length T)) ∧ ∀ x ∈ locsL M.length o.its, x ∈ T := fun k ob e hk => by
        obtain ⟨e1, e2⟩ := hole_some.mp e
        rcases hk with hk | hk
        · have u := old k ob hk e2
          rw [fid k hk, ren_id fid u]
          refine ⟨hole_some.mpr ⟨e1, (lowG k hk).trans e2⟩, fun x hx => ?_⟩
          rw [locsL_of_und _ _ u] at hx
          cases hx
        · refine ⟨hole_some.mpr ⟨fun hz => ?_, highG k hk ob e2⟩, ?_⟩
          · have := hZ _ hz
            rw [fhi k hk] at this
            omega
          · obtain ⟨_, ob', e', c⟩ := hT k hk
            rw [e2] at e'
            cases e'
            exact c
      have hfn : ∀ a ∈ ns, renF M.length T a = a := fun a ha => fid a (hns a ha)
      refine ⟨_, N, rfl, by omega, fun i ob e => ?_, lowG, Rp.ren hfn hg u d (fun k hk => by simpa using List.all_eq_true.mp k2 k hk) h, fun v ob i hi e x => ?_, fun i e hi => ?_⟩
      · rw [len]
        by_cases hi : i < M.length
        · rw [lowG i hi] at e
          exact undL_mono (by omega) (old i ob hi e)
        · rw [← hN, List.getElem?_append_right (by omega), lt, fm_get _ _ hM] at e
          cases hm : T[i - M.length]? with
          | none => rw [hm] at e; cases e
          | some m =>
            rw [hm] at e
            obtain ⟨_, o2, e2, c⟩ := hT m (List.mem_of_getElem? hm)
            have e : (M1[m]?).map (fun o => o.ren (renF M.length T)) = some ob := e
            rw [e2] at e
            cases e
            rw [its_ren]
            exact undL_of_locs M.length _ _ (fun k hk => by rw [fid k hk]; omega) o2.its fun k hk => fT k (c k hk)
      · refine x.with ?_
        have u := old i ob hi e
        have := Rps.ren hfn hg v.its ob.its (fun k hk => by rw [locsL_of_und _ _ u] at hk; cases hk) x.its
        rwa [renL_of_und _ _ fid _ u] at this
      · subst e
        have hk : i ∈ T := by
          have := List.all_eq_true.mp k2 i (by simp [D.locs]; omega)
          simpa using this
        exact ⟨_, rfl, by rw [fhi i hk]; omega⟩
    · rw [if_neg k]
      exact same
  · rw [if_neg o]
    exact same
/-! ### states -/
/-- the cell at n may be changed -/
def Mut (ns lk : List Nat) (n : Nat) : Prop := ∃ k, ns[k]? = some n ∧ k ∉ lk
structure Rel2 (Z ns : List Nat) (σ : Cs) (M : Store) : Prop where
  len : ns.length = σ.length
  nd : ns.Nodup
  sub : ∀ n ∈ ns, n ∈ Z
  lt : ∀ n ∈ Z, n < M.length
  cl : Closed M
  ob : ∀ (k : Nat) (u : U), σ[k]? = some u → ∃ n o, ns[k]? = some n ∧ M[n]? = some o ∧ Rc (hole M Z) ns u o
/-- from M to M' with the new cells x -/
structure St (Z ns lk : List Nat) (m : Nat) (M : Store) (x : List Nat) (σ : Cs) (z : Bool) (M' : Store) : Prop where
  le : M.length ≤ M'.length
  ext : ∀ n, n < M.length → ¬ Mut ns lk n → M'[n]? = M[n]?
  new : ∀ n ∈ x, M.length ≤ n
  rel : Rel2 (Z ++ x) (ns ++ x) σ M'
  keep : z = false → ∀ (k n : Nat) (o' : Ob), k < m → ns[k]? = some n → M'[n]? = some o' → ∃ o, M[n]? = some o ∧ ∀ a ∈ locsL 0 o'.its, a ∈ locsL 0 o.its
theorem getApp {ns x : List Nat} {k n : Nat} (h : ns[k]? = some n) : (ns ++ x)[k]? = some n := by
  rw [List.getElem?_append_left (List.getElem?_eq_some_iff.mp h).1]
  exact h
section
variable {Z ns lk x y : List Nat} {m : Nat} {M M1 M2 : Store} {σ σ1 σ2 : Cs} {z z1 z2 : Bool}
theorem Rel2.ltn (R : Rel2 Z ns σ M) : ∀ n ∈ ns, n < M.length := fun n h => R.lt n (R.sub n h)
theorem St.refl (R : Rel2 Z ns σ M) : St Z ns lk m M [] σ false M := ⟨Nat.le_refl _, fun _ _ _ => rfl, fun n h => (by cases h), (by rw [List.append_nil, List.append_nil]; exact R), fun _ k n o' _ _ e => ⟨o', e, fun _ h => h⟩⟩
theorem St.hole (s : St Z ns lk m M x σ z M1) (hs : ∀ n ∈ ns, n ∈ Z) (n : Nat) (o : Ob) (h : hole M Z n = some o) : hole M1 (Z ++ x) n = some o := by
  obtain ⟨h1, h2⟩ := hole_some.mp h
  have lt := (List.getElem?_eq_some_iff.mp h2).1
  refine hole_some.mpr ⟨fun hm => ?_, (s.ext n lt fun ⟨k, e, _⟩ => h1 (hs n (List.mem_of_getElem? e))).trans h2⟩
  rcases List.mem_append.mp hm with hm | hm
  · exact h1 hm
  · have := s.new n hm
    omega
theorem St.rp (s : St Z ns lk m M x σ z M1) (R : Rel2 Z ns σ1 M) {u : U} {d : D} (h : Rp (Dv.hole M Z) ns u d) : Rp (Dv.hole M1 (Z ++ x)) (ns ++ x) u d := Rp.mono (s.hole R.sub) (fun k n e => getApp e) u d h
theorem St.rps (s : St Z ns lk m M x σ z M1) (R : Rel2 Z ns σ1 M) {u : List U} {d : List D} (h : Rps (Dv.hole M Z) ns u d) : Rps (Dv.hole M1 (Z ++ x)) (ns ++ x) u d := Rps.mono (s.hole R.sub) (fun k n e => getApp e) u d h
theorem St.trans (s : St Z ns lk m M x σ1 z1 M1) (R : Rel2 Z ns σ M) (t : St (Z ++ x) (ns ++ x) lk m M1 y σ2 z2 M2) : St Z ns lk m M (x ++ y) σ2 (z1 || z2) M2 := by
  refine ⟨Nat.le_trans s.le t.le, fun n hn hm => ?_, fun n h => ?_, ?_, fun hz k n o' hk e eo => ?_⟩
  · refine (t.ext n (Nat.lt_of_lt_of_le hn s.le) fun ⟨k, e, hk⟩ => ?_).trans (s.ext n hn hm)
    by_cases h : k < ns.length
    · rw [List.getElem?_append_left h] at e
      exact hm ⟨k, e, hk⟩
    · rw [List.getElem?_append_right (by omega)] at e
      have := s.new n (List.mem_of_getElem? e)
      omega
  · rcases List.mem_append.mp h with h | h
    · exact s.new n h
    · exact Nat.le_trans s.le (t.new n h)
  · have := t.rel
    rw [List.append_assoc, List.append_assoc] at this
    exact this
  · obtain ⟨hz1, hz2⟩ := Bool.or_eq_false_iff.mp hz
    obtain ⟨o1, e1, h1⟩ := t.keep hz2 k n o' hk (getApp e) eo
    obtain ⟨o, e0, h0⟩ := s.keep hz1 k n o1 hk e e1
    exact ⟨o, e0, fun a ha => h0 a (h1 a ha)⟩
end
/-! ### ends -/
def fdF (fs : List (Str × U)) : List (Str × D) := fs.map fun q => (q.1, q.2.fd)
def flF (fs : List (Str × U)) : Bool := fs.all fun q => q.2.fl
def Sim {α β : Type} (Z ns lk : List Nat) (m : Nat) (M : Store) (RA : α → β → List Nat → Store → Cs → Prop) (p : PO α) (o : Out β) : Prop := match p with
  | .ok a σ z => ∃ b M' x, o = .ok b M' ∧ St Z ns lk m M x σ z M' ∧ RA a b x M' σ
  | .exc c fs σ z => ∃ M' x, o = .exc c (fdF fs) M' ∧ flF fs = true ∧ St Z ns lk m M x σ z M'
  | .bad => True
section
variable {α β α' β' : Type} {Z ns lk : List Nat} {m : Nat} {M : Store} {σ : Cs} {RA : α → β → List Nat → Store → Cs → Prop} {RB : α' → β' → List Nat → Store → Cs → Prop}
theorem Sim.ok {a : α} {b : β} (R : Rel2 Z ns σ M) (h : RA a b [] M σ) : Sim Z ns lk m M RA (.ok a σ false) (.ok b M) := ⟨b, M, [], rfl, St.refl R, h⟩
theorem Sim.bind {p : PO α} {o : Out β} {f : α → Cs → PO α'} {h : β → Store → Out β'} (R : Rel2 Z ns σ M) (s : Sim Z ns lk m M RA p o)
    (k : ∀ a b x σ1 z M1, St Z ns lk m M x σ1 z M1 → RA a b x M1 σ1 → Sim (Z ++ x) (ns ++ x) lk m M1 (fun a b y M2 σ2 => RB a b (x ++ y) M2 σ2) (f a σ1) (h b M1)) : Sim Z ns lk m M RB (p.bind f) (o.bind h) := by
  cases p with
  | bad => exact True.intro
  | exc c fs σ1 z =>
    obtain ⟨M', x, rfl, hf, t⟩ := s
    exact ⟨M', x, rfl, hf, t⟩
  | ok a σ1 z =>
    obtain ⟨b, M', x, rfl, t, ra⟩ := s
    have q := k a b x σ1 z M' t ra
    show Sim Z ns lk m M RB ((f a σ1).or z) (h b M')
    revert q
    cases f a σ1 with
    | bad => exact fun _ => True.intro
    | exc c fs σ2 z2 =>
      rintro ⟨M2, y, e, hf, t2⟩
      exact ⟨M2, x ++ y, e, hf, t.trans R t2⟩
    | ok a2 σ2 z2 =>
      rintro ⟨b2, M2, y, e, t2, r2⟩
      exact ⟨b2, M2, x ++ y, e, t.trans R t2, r2⟩
theorem Sim.mono {p : PO α} {o : Out β} {RA' : α → β → List Nat → Store → Cs → Prop} (s : Sim Z ns lk m M RA p o) (h : ∀ a b x M1 σ1, RA a b x M1 σ1 → RA' a b x M1 σ1) : Sim Z ns lk m M RA' p o := by
  cases p with
  | bad => exact True.intro
  | exc c fs σ1 z => exact s
  | ok a σ1 z =>
    obtain ⟨b, M', x, e, t, ra⟩ := s
    exact ⟨b, M', x, e, t, h _ _ _ _ _ ra⟩
theorem Sim.nox {p : PO α} {o : Out β} (s : Sim Z ns lk m M RA p o) : Sim Z ns lk m M RA p.nox o.nox := by
  cases p with
  | bad => exact True.intro
  | exc c fs σ1 z => exact True.intro
  | ok a σ1 z =>
    obtain ⟨b, M', x, rfl, t, ra⟩ := s
    exact ⟨b, M', x, rfl, t, ra⟩
theorem Sim.ofO {a : Option α} {b : Option β} (R : Rel2 Z ns σ M) (h : ∀ x, a = some x → ∃ y, b = some y ∧ RA x y [] M σ) : Sim Z ns lk m M RA (ofU a σ) (Dv.ofO b M) := by
  cases a with
  | none => exact True.intro
  | some x =>
    obtain ⟨y, rfl, r⟩ := h x rfl
    exact Sim.ok R r
end
/-- values -/
abbrev RV2 (Z ns : List Nat) : U → D → List Nat → Store → Cs → Prop := fun u d x M _ => Rp (hole M (Z ++ x)) (ns ++ x) u d
abbrev RVs2 (Z ns : List Nat) : List U → List D → List Nat → Store → Cs → Prop := fun u d x M _ => Rps (hole M (Z ++ x)) (ns ++ x) u d
abbrev REq {α : Type} : α → α → List Nat → Store → Cs → Prop := fun a b _ _ _ => a = b
/-- a new object, held by nothing -/
def FreshOk (Z ns : List Nat) (M : Store) (d : D) (x : List Nat) (M1 : Store) (σ : Cs) : Prop := ∃ (j : Nat) (M' : Store), d = .loc j ∧ M.length ≤ M'.length ∧ M'.length ≤ j ∧ M'.length ≤ M1.length ∧ (∀ n, n < M'.length → M1[n]? = M'[n]?) ∧ Closed M1 ∧ Rel2 (Z ++ x) (ns ++ x) σ M'
def U.box : U → Bool
  | .lst _ => true | .dct _ _ => true | .dtt _ _ => true | .ins _ _ _ => true | _ => false
abbrev RVF (Z ns : List Nat) (M0 : Store) : U → D → List Nat → Store → Cs → Prop := fun u d x M σ => Rp (hole M (Z ++ x)) (ns ++ x) u d ∧ (u.box = true → FreshOk Z ns M0 d x M σ)
theorem RVF.shift {Z ns x y : List Nat} {M0 M1 M2 : Store} {σ : Cs} {u : U} {d : D} (h : RVF (Z ++ x) (ns ++ x) M1 u d y M2 σ) (l : M0.length ≤ M1.length) : RVF Z ns M0 u d (x ++ y) M2 σ := by
  obtain ⟨h1, h2⟩ := h
  rw [List.append_assoc, List.append_assoc] at h1
  refine ⟨h1, fun b => ?_⟩
  obtain ⟨j, M', e, l1, l2, l3, l4, l5, l6⟩ := h2 b
  rw [List.append_assoc, List.append_assoc] at l6
  exact ⟨j, M', e, Nat.le_trans l l1, l2, l3, l4, l5, l6⟩
/-- slots -/
structure Re (Z ns : List Nat) (M : Store) (e : UE) (env : Env) : Prop where
  len : e.length = env.length
  at_ : ∀ (i : Nat) (u : U), e[i]? = some (some u) → ∃ d, env[i]? = some (some d) ∧ Rp (hole M Z) ns u d
section
variable {Z ns lk x : List Nat} {m : Nat} {M M1 : Store} {σ σ1 : Cs} {z : Bool} {e : UE} {env : Env}
theorem Re.next (r : Re Z ns M e env) (R : Rel2 Z ns σ M) (s : St Z ns lk m M x σ1 z M1) : Re (Z ++ x) (ns ++ x) M1 e env := ⟨r.len, fun i u h => by
  obtain ⟨d, e1, h1⟩ := r.at_ i u h
  exact ⟨d, e1, s.rp R h1⟩⟩
theorem Re.set (r : Re Z ns M e env) {i : Nat} {u : U} {d : D} (h : Rp (hole M Z) ns u d) : Re Z ns M (e.set i (some u)) (env.set i (some d)) := ⟨by simp [r.len], fun j v hj => by
  by_cases hi : i = j
  · subst hi
    rw [List.getElem?_set] at hj
    by_cases hl : i < e.length
    · rw [if_pos rfl, if_pos hl] at hj
      have hj : u = v := by simpa using hj
      subst hj
      exact ⟨d, by rw [List.getElem?_set, if_pos rfl, if_pos (r.len ▸ hl)], h⟩
    · rw [if_pos rfl, if_neg hl] at hj
      cases hj
  · rw [List.getElem?_set, if_neg hi] at hj
    obtain ⟨d', e1, h1⟩ := r.at_ j v hj
    exact ⟨d', by rw [List.getElem?_set, if_neg hi]; exact e1, h1⟩⟩
theorem Re.unset (r : Re Z ns M e env) {i : Nat} : Re Z ns M (e.set i none) (env.set i none) := ⟨by simp [r.len], fun j v hj => by
  by_cases hi : i = j
  · subst hi
    rw [List.getElem?_set] at hj
    by_cases hl : i < e.length
    · rw [if_pos rfl, if_pos hl] at hj
      cases hj
    · rw [if_pos rfl, if_neg hl] at hj
      cases hj
  · rw [List.getElem?_set, if_neg hi] at hj
    obtain ⟨d', e1, h1⟩ := r.at_ j v hj
    exact ⟨d', by rw [List.getElem?_set, if_neg hi]; exact e1, h1⟩⟩
end
end Dv
end

section
set_option Elab.async false
set_option autoImplicit false
set_option linter.all false
set_option maxRecDepth 100000
set_option maxHeartbeats 2000000
/-! PvD: operations by values. -/
namespace Dv
open PySem L2
section
variable {Z ns lk : List Nat} {m : Nat} {M : Store} {σ : Cs} {x y a : U} {d d' : D} {xs : List U}
/-! ### behind a cell -/
theorem dref_box (R : Rel2 Z ns σ M) (h : Rp (hole M Z) ns x d) (e : dref σ x = some a) : x = a ∨ ∃ k n o, x = .cel k ∧ σ[k]? = some a ∧ ns[k]? = some n ∧ d = .loc n ∧ M[n]? = some o ∧ Rc (hole M Z) ns a o := by
  cases x with
  | cel k =>
    have e : σ[k]? = some a := e
    obtain ⟨n, rfl, e1⟩ := h
    obtain ⟨n', o, e2, e3, r⟩ := R.ob k a e
    rw [e1] at e2
    cases e2
    exact .inr ⟨k, n, o, rfl, e, e1, rfl, e3, r⟩
  | _ => exact .inl (by simpa [dref] using e)
theorem dref_lst (R : Rel2 Z ns σ M) (h : Rp (hole M Z) ns x d) (e : dref σ x = some (.lst xs)) : ∃ n ds, d = .loc n ∧ M[n]? = some (.lst ds) ∧ Rps (hole M Z) ns xs ds := by
  rcases dref_box R h e with rfl | ⟨k, n, o, rfl, _, _, rfl, e3, r⟩
  · obtain ⟨n, ds, e1, e2, r⟩ := h
    exact ⟨n, ds, e1, (hole_some.mp e2).2, r⟩
  · obtain ⟨ds, rfl, r⟩ := r
    exact ⟨n, ds, rfl, e3, r⟩
theorem dref_dct {ks : List Key} (R : Rel2 Z ns σ M) (h : Rp (hole M Z) ns x d) (e : dref σ x = some (.dct ks xs)) : ∃ n kvs, d = .loc n ∧ M[n]? = some (.dct kvs) ∧ kvs.map (·.1) = ks ∧ Rps (hole M Z) ns xs (kvs.map (·.2)) := by
  rcases dref_box R h e with rfl | ⟨k, n, o, rfl, _, _, rfl, e3, r⟩
  · obtain ⟨n, ds, e1, e2, e3, r⟩ := h
    exact ⟨n, ds, e1, (hole_some.mp e2).2, e3, r⟩
  · obtain ⟨ds, rfl, e4, r⟩ := r
    exact ⟨n, ds, rfl, e3, e4, r⟩
theorem dref_dtt {ks : List (List Key)} (R : Rel2 Z ns σ M) (h : Rp (hole M Z) ns x d) (e : dref σ x = some (.dtt ks xs)) : ∃ n kvs, d = .loc n ∧ M[n]? = some (.dtt kvs) ∧ kvs.map (·.1) = ks ∧ Rps (hole M Z) ns xs (kvs.map (·.2)) := by
  rcases dref_box R h e with rfl | ⟨k, n, o, rfl, _, _, rfl, e3, r⟩
  · obtain ⟨n, ds, e1, e2, e3, r⟩ := h
    exact ⟨n, ds, e1, (hole_some.mp e2).2, e3, r⟩
  · obtain ⟨ds, rfl, e4, r⟩ := r
    exact ⟨n, ds, rfl, e3, e4, r⟩
theorem dref_ins {c : Nat} {fs : List Str} (R : Rel2 Z ns σ M) (h : Rp (hole M Z) ns x d) (e : dref σ x = some (.ins c fs xs)) : ∃ n kvs, d = .loc n ∧ M[n]? = some (.ins c kvs) ∧ kvs.map (·.1) = fs ∧ Rps (hole M Z) ns xs (kvs.map (·.2)) := by
  rcases dref_box R h e with rfl | ⟨k, n, o, rfl, _, _, rfl, e3, r⟩
  · obtain ⟨n, ds, e1, e2, e3, r⟩ := h
    exact ⟨n, ds, e1, (hole_some.mp e2).2, e3, r⟩
  · obtain ⟨ds, rfl, e4, r⟩ := r
    exact ⟨n, ds, rfl, e3, e4, r⟩
/-- not a box: it stands itself -/
theorem dref_it (R : Rel2 Z ns σ M) (h : Rp (hole M Z) ns x d) (e : dref σ x = some a) (hb : ∀ o, ¬ Rc (hole M Z) ns a o) : Rp (hole M Z) ns a d := by
  rcases dref_box R h e with rfl | ⟨k, n, o, rfl, _, _, rfl, e3, r⟩
  · exact h
  · exact (hb o r).elim
theorem lstU_ok (R : Rel2 Z ns σ M) (h : Rp (hole M Z) ns x d) (e : lstU σ x = some xs) : ∃ n ds, d = .loc n ∧ M[n]? = some (.lst ds) ∧ lstAt M n = some ds ∧ Rps (hole M Z) ns xs ds := by
  unfold lstU at e
  split at e
  · rename_i e'
    cases e
    obtain ⟨n, ds, e1, e2, r⟩ := dref_lst R h e'
    exact ⟨n, ds, e1, e2, lstAt_eq.mpr e2, r⟩
  · cases e
/-! ### a new object -/
theorem Rel2.push (R : Rel2 Z ns σ M) {o : Ob} (u : undL M.length o.its = true) : Rel2 Z ns σ (M ++ [o]) := by
  have hg : ∀ n q, hole M Z n = some q → hole (M ++ [o]) Z n = some q := fun n q e => by
    obtain ⟨e1, e2⟩ := hole_some.mp e
    exact hole_some.mpr ⟨e1, get_old e2⟩
  refine ⟨R.len, R.nd, R.sub, fun n h => by rw [List.length_append]; have := R.lt n h; omega, fun n q e => ?_, fun k u e => ?_⟩
  · rw [List.length_append]
    by_cases h : n < M.length
    · rw [List.getElem?_append_left h] at e
      exact undL_mono (by omega) (R.cl n q e)
    · rw [List.getElem?_append_right (by omega)] at e
      cases hn : n - M.length with
      | zero =>
        rw [hn] at e
        cases e
        exact undL_mono (by omega) u
      | succ j => rw [hn] at e; simp at e
  · obtain ⟨n, q, e1, e2, r⟩ := R.ob k u e
    exact ⟨n, q, e1, get_old e2, r.with (Rps.mono hg (fun _ _ e => e) _ _ r.its)⟩
theorem St.push (R : Rel2 Z ns σ M) {o : Ob} (u : undL M.length o.its = true) : St Z ns lk m M [] σ false (M ++ [o]) :=
  ⟨by rw [List.length_append]; omega, fun n h _ => List.getElem?_append_left h, fun n h => (by cases h), by rw [List.append_nil, List.append_nil]; exact R.push u, fun _ k n o' _ hk e => by
    have hn := R.ltn n (List.mem_of_getElem? hk)
    rw [List.getElem?_append_left hn] at e
    exact ⟨o', e, fun _ h => h⟩⟩
theorem mk_ok2 (R : Rel2 Z ns σ M) {u : U} {o : Ob} (h : Rc (hole M Z) ns u o) : Sim Z ns lk m M (RVF Z ns M) (.ok u σ false) (mk M o) := by
  have un := Rps.und R.ltn _ _ h.its
  refine ⟨_, _, [], rfl, St.push R un, ?_, fun _ => ⟨M.length, M, rfl, Nat.le_refl _, Nat.le_refl _, by rw [List.length_append]; omega, fun n h => List.getElem?_append_left h, (R.push un).cl, by rw [List.append_nil, List.append_nil]; exact R⟩⟩
  have hg : ∀ n q, hole M Z n = some q → hole (M ++ [o]) Z n = some q := fun n q e => by
    obtain ⟨e1, e2⟩ := hole_some.mp e
    exact hole_some.mpr ⟨e1, get_old e2⟩
  show Rp (hole (M ++ [o]) (Z ++ [])) (ns ++ []) u _
  rw [List.append_nil, List.append_nil]
  refine Rp.con (o := o) (hole_some.mpr ⟨fun z => ?_, get_new0 M [o]⟩) (h.with (Rps.mono hg (fun _ _ e => e) _ _ h.its))
  have := R.lt _ z
  omega
theorem lst_ok2 (R : Rel2 Z ns σ M) {ds : List D} (h : Rps (hole M Z) ns xs ds) : Sim Z ns lk m M (RVF Z ns M) (.ok (.lst xs) σ false) (mk M (.lst ds)) := mk_ok2 R ⟨ds, rfl, h⟩
theorem val_ok (R : Rel2 Z ns σ M) (h : Rp (hole M Z) ns x d) : Sim Z ns lk m M (RV2 Z ns) (.ok x σ false) (.ok d M) := Sim.ok R (by show Rp (hole M (Z ++ [])) (ns ++ []) x d; rw [List.append_nil, List.append_nil]; exact h)
theorem val_okF (R : Rel2 Z ns σ M) (h : Rp (hole M Z) ns x d) (hb : x.box = false) : Sim Z ns lk m M (RVF Z ns M) (.ok x σ false) (.ok d M) := Sim.ok R ⟨by rw [List.append_nil, List.append_nil]; exact h, fun z => by rw [hb] at z; cases z⟩
theorem Sim.toV {p : PO U} {o : Out D} (s : Sim Z ns lk m M (RVF Z ns M) p o) : Sim Z ns lk m M (RV2 Z ns) p o := s.mono fun _ _ _ _ _ h => h.1
/-! ### a cell is changed -/
theorem put_ok (R : Rel2 Z ns σ M) {k n : Nat} {u u' : U} {o o' : Ob} {fl : Bool} (e : σ[k]? = some u) (en : ns[k]? = some n) (eo : M[n]? = some o) (hk : k ∉ lk) (h : Rc (hole M Z) ns u' o') (hf : fl = true → ∀ a ∈ locsL 0 o'.its, a ∈ locsL 0 o.its) :
    St Z ns lk m M [] (σ.set k u') (decide (k < m) && !fl) (M.set n o') := by
  have hZ : n ∈ Z := R.sub n (List.mem_of_getElem? en)
  have un := Rps.und R.ltn _ _ h.its
  have hn := R.lt n hZ
  have eh : hole (M.set n o') Z = hole M Z := by
    funext j
    unfold hole
    by_cases hj : j ∈ Z
    · rw [if_pos hj, if_pos hj]
    · rw [if_neg hj, if_neg hj, List.getElem?_set_ne (by rintro rfl; exact hj hZ)]
  refine ⟨by rw [List.length_set]; exact Nat.le_refl _, fun j hj hm => ?_, fun j h => (by cases h), ?_, fun hz j i q hj hi eq => ?_⟩
  · rw [List.getElem?_set_ne]
    rintro rfl
    exact hm ⟨k, en, hk⟩
  · rw [List.append_nil, List.append_nil]
    refine ⟨by rw [List.length_set]; exact R.len, R.nd, R.sub, fun j hj => by rw [List.length_set]; exact R.lt j hj, fun j q eq => ?_, fun j v ev => ?_⟩
    · rw [List.length_set]
      by_cases hj : n = j
      · subst hj
        rw [List.getElem?_set_self hn] at eq
        cases eq
        exact un
      · rw [List.getElem?_set_ne hj] at eq
        exact R.cl j q eq
    · by_cases hj : k = j
      · subst hj
        rw [List.getElem?_set_self (List.getElem?_eq_some_iff.mp e).1] at ev
        cases ev
        exact ⟨n, o', en, List.getElem?_set_self hn, by rw [eh]; exact h⟩
      · rw [List.getElem?_set_ne hj] at ev
        obtain ⟨i, q, e1, e2, r⟩ := R.ob j v ev
        refine ⟨i, q, e1, ?_, by rw [eh]; exact r⟩
        rw [List.getElem?_set_ne]
        · exact e2
        · rintro rfl
          obtain ⟨a1, a2⟩ := List.getElem?_eq_some_iff.mp en
          obtain ⟨b1, b2⟩ := List.getElem?_eq_some_iff.mp e1
          exact hj ((List.getElem_inj R.nd).mp (a2.trans b2.symm))
  · by_cases hjk : n = i
    · subst hjk
      obtain ⟨a1, a2⟩ := List.getElem?_eq_some_iff.mp en
      obtain ⟨b1, b2⟩ := List.getElem?_eq_some_iff.mp hi
      have ejk : k = j := (List.getElem_inj R.nd).mp (a2.trans b2.symm)
      subst ejk
      rw [List.getElem?_set_self hn] at eq
      cases eq
      have hfl : fl = true := by simpa [hj] using hz
      exact ⟨o, eo, hf hfl⟩
    · rw [List.getElem?_set_ne hjk] at eq
      exact ⟨q, eq, fun _ h => h⟩
theorem putC_ok (R : Rel2 Z ns σ M) {k n : Nat} {u u' r : U} {dr : D} {o o' : Ob} {fl : Bool} (e : σ[k]? = some u) (en : ns[k]? = some n) (eo : M[n]? = some o) (h : Rc (hole M Z) ns u' o') (hf : fl = true → ∀ a ∈ locsL 0 o'.its, a ∈ locsL 0 o.its) (hr : Rp (hole M Z) ns r dr) :
    Sim Z ns lk m M (RV2 Z ns) (putC lk m σ k u' r fl) (.ok dr (M.set n o')) := by
  unfold putC
  by_cases hk : k ∈ lk
  · rw [if_pos hk]
    exact True.intro
  · rw [if_neg hk]
    have s := put_ok (m := m) R e en eo hk h hf
    exact ⟨_, _, [], rfl, s, s.rp R hr⟩
/-! ### scalars, keys -/
theorem Rp.sc (h : Rp (hole M Z) ns x d) : d.sc = x.sc ∧ (x.sc = true → d = x.fd) := by
  cases x <;> simp only [Rp] at h <;> first | (subst h; exact ⟨rfl, fun _ => rfl⟩) | (obtain ⟨_, rfl, _⟩ := h; exact ⟨rfl, fun z => by cases z⟩) | (obtain ⟨_, _, rfl, _⟩ := h; exact ⟨rfl, fun z => by cases z⟩)
theorem Rps.sc : ∀ {us : List U} {ds : List D}, Rps (hole M Z) ns us ds → ds.all D.sc = us.all U.sc ∧ (us.all U.sc = true → ds = us.map U.fd)
  | [], _, h => by cases h; exact ⟨rfl, fun _ => rfl⟩
  | u :: us, ds, h => by
    obtain ⟨d, r, rfl, h1, h2⟩ := h
    obtain ⟨a1, a2⟩ := Rp.sc h1
    obtain ⟨b1, b2⟩ := Rps.sc h2
    refine ⟨by rw [List.all_cons, List.all_cons, a1, b1], fun z => ?_⟩
    obtain ⟨z1, z2⟩ := Bool.and_eq_true_iff.mp (show (u.sc && us.all U.sc) = true from z)
    rw [List.map_cons, ← a2 z1, ← b2 z2]
theorem Rp.key (h : Rp (hole M Z) ns x d) {k : Key} (e : x.key? = some k) : d.key? = some k := by
  cases x <;> simp only [U.key?] at e <;> first | (cases e; done) | (cases e; cases h; rfl)
theorem keys_ok : ∀ {us : List U} {ds : List D} {ks : List Key}, Rps (hole M Z) ns us ds → keysU us = some ks → keysOf ds = some ks
  | [], _, ks, h, e => by cases h; cases e; rfl
  | u :: us, ds, ks, h, e => by
    obtain ⟨d, r, rfl, h1, h2⟩ := h
    have e : (match u.key?, keysU us with | some k, some ks => some (k :: ks) | _, _ => none) = some ks := e
    split at e
    · rename_i k ks' e1 e2
      cases e
      show (match d.key?, keysOf r with | some k, some ks => some (k :: ks) | _, _ => none) = _
      rw [Rp.key h1 e1, keys_ok h2 e2]
    · cases e
theorem keyD_ok (k : Key) : Rp (hole M Z) ns (keyU k) (keyD k) := by
  cases k <;> rfl
/-! ### dicts -/
theorem lkp_valK {κ : Type} [DecidableEq κ] : ∀ (kvs : List (κ × D)) (k : κ), valK kvs k = lkp (kvs.map (·.1)) (kvs.map (·.2)) k
  | [], _ => rfl
  | (q, v) :: r, k => by
    have ih := lkp_valK r k
    unfold valK at ih ⊢
    show (List.find? _ _).map _ = if q = k then some v else lkp (r.map (·.1)) (r.map (·.2)) k
    by_cases h : q = k
    · rw [if_pos h, List.find?_cons_of_pos (by simpa using h)]
      rfl
    · rw [if_neg h, List.find?_cons_of_neg (by simpa using h)]
      exact ih
theorem lookup_lkp : ∀ (kvs : List (Str × D)) (k : Str), kvs.lookup k = lkp (kvs.map (·.1)) (kvs.map (·.2)) k
  | [], _ => rfl
  | (q, v) :: r, k => by
    rw [List.lookup_cons]
    show _ = if q = k then some v else lkp (r.map (·.1)) (r.map (·.2)) k
    by_cases h : q = k
    · subst h
      simp
    · rw [if_neg h, ← lookup_lkp r k]
      have : (k == q) = false := by simpa using Ne.symm h
      rw [this]
theorem lkp_ok {κ : Type} [DecidableEq κ] : ∀ {ks : List κ} {us : List U} {ds : List D} {k : κ}, Rps (hole M Z) ns us ds → match lkp ks us k with
    | some u => ∃ d, lkp ks ds k = some d ∧ Rp (hole M Z) ns u d
    | none => lkp ks ds k = none
  | [], us, ds, k, h => by cases us <;> rfl
  | q :: ks, [], ds, k, h => by cases h; rfl
  | q :: ks, u :: us, ds, k, h => by
    obtain ⟨d, r, rfl, h1, h2⟩ := h
    by_cases e : q = k
    · have e1 : lkp (q :: ks) (u :: us) k = some u := by show (if q = k then _ else _) = _; rw [if_pos e]
      have e2 : lkp (q :: ks) (d :: r) k = some d := by show (if q = k then _ else _) = _; rw [if_pos e]
      rw [e1, e2]
      exact ⟨d, rfl, h1⟩
    · have e1 : lkp (q :: ks) (u :: us) k = lkp ks us k := by show (if q = k then _ else _) = _; rw [if_neg e]
      have e2 : lkp (q :: ks) (d :: r) k = lkp ks r k := by show (if q = k then _ else _) = _; rw [if_neg e]
      rw [e1, e2]
      exact lkp_ok h2
/-! ### data -/
mutual
theorem pyU_ok : ∀ (u : U) (d : D) (k : Nat) (p : PyData), Rp (hole M Z) ns u d → pyU u = some p → u.ld ≤ k → pyO (loD M k) d = some p
  | .non, d, k, p, h, e, _ => by cases h; cases e; rfl
  | .bl b, d, k, p, h, e, _ => by cases h; cases e; rfl
  | .int i, d, k, p, h, e, _ => by cases h; cases e; rfl
  | .str s, d, k, p, h, e, _ => by cases h; cases e; rfl
  | .rol xs, d, k, p, h, e, _ => by cases h; cases e; rfl
  | .ktp xs, d, k, p, h, e, _ => by cases e
  | .tup us, d, k, p, h, e, l => by
    obtain ⟨ds, rfl, r⟩ := h
    have e : (pyL us).map PyData.tuple = some p := e
    cases q : pyL us with
    | none => rw [q] at e; cases e
    | some ps =>
      rw [q] at e
      cases e
      show (pysO (loD M k) ds).map PyData.tuple = _
      rw [pyL_ok us ds k ps r q (by simpa only [U.ld] using l)]
      rfl
  | .lst us, d, k, p, h, e, l => by
    obtain ⟨n, ds, rfl, e1, r⟩ := h
    have e : (pyL us).map PyData.list = some p := e
    cases q : pyL us with
    | none => rw [q] at e; cases e
    | some ps =>
      rw [q] at e
      cases e
      cases k with
      | zero => simp only [U.ld] at l; omega
      | succ k =>
        show loD M (k + 1) n = _
        unfold loD
        rw [(hole_some.mp e1).2]
        show (pysO (loD M k) ds).map PyData.list = _
        rw [pyL_ok us ds k ps r q (by simp only [U.ld] at l; omega)]
        rfl
  | .dct ks us, d, k, p, h, e, l => by cases e
  | .dtt ks us, d, k, p, h, e, l => by cases e
  | .ins c ks us, d, k, p, h, e, l => by cases e
  | .cel j, d, k, p, h, e, l => by cases e
theorem pyL_ok : ∀ (us : List U) (ds : List D) (k : Nat) (ps : List PyData), Rps (hole M Z) ns us ds → pyL us = some ps → ldL us ≤ k → pysO (loD M k) ds = some ps
  | [], ds, k, ps, h, e, _ => by cases h; cases e; rfl
  | u :: us, ds, k, ps, h, e, l => by
    obtain ⟨d, r, rfl, h1, h2⟩ := h
    have e : (match pyU u, pyL us with | some x, some xs => some (x :: xs) | _, _ => none) = some ps := e
    split at e
    · rename_i p ps' e1 e2
      cases e
      simp only [ldL] at l
      show (match pyO (loD M k) d, pysO (loD M k) r with | some x, some xs => some (x :: xs) | _, _ => none) = _
      rw [pyU_ok u d k p h1 e1 (by omega), pyL_ok us r k ps' h2 e2 (by omega)]
    · cases e
end
theorem py_dref (R : Rel2 Z ns σ M) (h : Rp (hole M Z) ns x d) (e : dref σ x = some a) {p : PyData} (hp : pyU a = some p) (l : a.ld ≤ 4) : py M d = some p := by
  rcases dref_box R h e with rfl | ⟨k, n, o, rfl, _, _, rfl, e3, r⟩
  · exact pyU_ok x d 4 p h hp l
  · cases a <;> simp only [Rc] at r <;> first | exact r.elim | (cases hp; done) | skip
    rename_i us _
    obtain ⟨ds, rfl, r⟩ := r
    have hp : (pyL us).map PyData.list = some p := hp
    cases q : pyL us with
    | none => rw [q] at hp; cases hp
    | some ps =>
      rw [q] at hp
      cases hp
      show loD M 4 n = _
      unfold loD
      rw [e3]
      show (pysO (loD M 3) ds).map PyData.list = _
      rw [pyL_ok us ds 3 ps r q (by simp only [U.ld] at l; omega)]
      rfl
theorem eqU_ok (R : Rel2 Z ns σ M) (hx : Rp (hole M Z) ns x d) (hy : Rp (hole M Z) ns y d') {b : Bool} (e : eqU σ x y = some b) : eqE M d d' = some b := by
  obtain ⟨s1, s2⟩ := Rp.sc hx
  obtain ⟨t1, t2⟩ := Rp.sc hy
  unfold eqU at e
  unfold eqE
  rw [s1, t1]
  by_cases s : (x.sc && y.sc) = true
  · rw [if_pos s] at e ⊢
    obtain ⟨z1, z2⟩ := Bool.and_eq_true_iff.mp s
    rw [s2 z1, t2 z2]
    exact e
  · rw [if_neg s] at e ⊢
    split at e
    · rename_i a b' e1 e2
      split at e
      · rename_i p q e3 e4
        split at e
        · rename_i hs
          cases e
          simp only [Bool.and_eq_true, decide_eq_true_eq] at hs
          rw [py_dref R hx e1 e3 hs.2.1, py_dref R hy e2 e4 hs.2.2]
          show (if (SeqAt.shaped p && SeqAt.shaped q) = true then _ else _) = _
          rw [if_pos (Bool.and_eq_true_iff.mpr hs.1)]
        · cases e
      · cases e
    · cases e
theorem any_map {ys : List U} {ds : List D} (h : ds = ys.map U.fd) (v : D) : (ds.any fun y => eqS y v) = ys.any fun y => eqS y.fd v := by
  rw [h, List.any_map]
  rfl
theorem noRc_tup {g : Nat → Option Ob} {us : List U} : ∀ o, ¬ Rc g ns (.tup us) o := fun _ h => h
theorem inU_ok (R : Rel2 Z ns σ M) (hx : Rp (hole M Z) ns x d) (hy : Rp (hole M Z) ns y d') {b : Bool} (e : inU σ x y = some b) : inE M d d' = some b := by
  obtain ⟨s1, s2⟩ := Rp.sc hx
  unfold inU at e
  split at e
  · rename_i z e1
    have hd := dref_it R hy e1 (fun _ h => h)
    cases hd
    cases x <;> simp only at e <;> first | (cases e; done) | skip
    cases hx
    exact e
  · rename_i ys e1
    obtain ⟨n, ds, rfl, e2, r⟩ := dref_lst R hy e1
    obtain ⟨t1, t2⟩ := Rps.sc r
    unfold inE
    simp only [e2]
    rw [s1, t1]
    by_cases s : (x.sc && ys.all U.sc) = true
    · rw [if_pos s] at e ⊢
      obtain ⟨z1, z2⟩ := Bool.and_eq_true_iff.mp s
      rw [s2 z1, any_map (t2 z2)]
      exact e
    · rw [if_neg s] at e ⊢
      split at e
      · rename_i a e3
        split at e
        · rename_i p qs e4 e5
          split at e
          · rename_i hs
            cases e
            simp only [Bool.and_eq_true, decide_eq_true_eq] at hs
            have e6 : py M (.loc n) = some (.list qs) := by
              show loD M 4 n = _
              unfold loD
              rw [e2]
              show (pysO (loD M 3) ds).map PyData.list = _
              rw [pyL_ok ys ds 3 qs r e5 hs.2.2]
              rfl
            rw [py_dref R hx e3 e4 hs.2.1, e6]
            show (if (SeqAt.shaped p && SeqAt.shaped (.list qs)) = true then _ else _) = _
            rw [if_pos (Bool.and_eq_true_iff.mpr hs.1)]
          · cases e
        · cases e
      · cases e
  · rename_i ks us e1
    obtain ⟨n, kvs, rfl, e2, e3, r⟩ := dref_dct R hy e1
    split at e
    · rename_i k ek
      unfold inE
      simp only [e2]
      rw [Rp.key hx ek]
      show some (valK kvs k).isSome = _
      rw [lkp_valK, e3]
      have q := lkp_ok (ks := ks) (k := k) r
      rw [← e]
      cases hq : lkp ks us k with
      | none => rw [hq] at q; rw [show lkp ks (kvs.map (·.2)) k = none from q]; rfl
      | some v =>
        rw [hq] at q
        obtain ⟨dv, q1, _⟩ := q
        rw [q1]
        rfl
    · cases e
  · rename_i ys e1
    have hd := dref_it R hy e1 (fun _ h => h)
    obtain ⟨ds, rfl, r⟩ := hd
    obtain ⟨t1, t2⟩ := Rps.sc r
    split at e
    · rename_i s
      cases e
      unfold inE
      simp only
      rw [s1, t1, if_pos s]
      obtain ⟨z1, z2⟩ := Bool.and_eq_true_iff.mp s
      rw [s2 z1, any_map (t2 z2)]
    · cases e
  · rename_i ys e1
    have hd := dref_it R hy e1 (fun _ h => h)
    cases hd
    split at e
    · rename_i s
      cases e
      unfold inE
      simp only
      rw [s1, if_pos s, s2 s]
    · cases e
  · cases e
theorem cmpU_ok (R : Rel2 Z ns σ M) (hx : Rp (hole M Z) ns x d) (hy : Rp (hole M Z) ns y d') {o : Co} {b : Bool} (e : cmpU o σ x y = some b) : cmpE o M d d' = some b := by
  have hm : ∀ {p q : Option Bool}, (∀ b, p = some b → q = some b) → p.map (!·) = some b → q.map (!·) = some b := fun {p q} h e => by
    cases p with
    | none => cases e
    | some c => rw [h c rfl]; exact e
  cases o with
  | lt => cases x <;> cases y <;> first | (cases e; done) | (cases hx; cases hy; exact e)
  | le => cases x <;> cases y <;> first | (cases e; done) | (cases hx; cases hy; exact e)
  | gt => cases x <;> cases y <;> first | (cases e; done) | (cases hx; cases hy; exact e)
  | ge => cases x <;> cases y <;> first | (cases e; done) | (cases hx; cases hy; exact e)
  | eq => exact eqU_ok R hx hy e
  | ne => exact hm (fun b h => eqU_ok R hx hy h) e
  | inn => exact inU_ok R hx hy e
  | nin => exact hm (fun b h => inU_ok R hx hy h) e
  | iss =>
    cases y <;> first | (cases e; done) | skip
    cases hy
    cases x <;> simp only [Rp] at hx <;> first | (subst hx; exact e) | (obtain ⟨_, rfl, _⟩ := hx; exact e) | (obtain ⟨_, _, rfl, _⟩ := hx; exact e)
  | isn =>
    cases y <;> first | (cases e; done) | skip
    cases hy
    cases x <;> simp only [Rp] at hx <;> first | (subst hx; exact e) | (obtain ⟨_, rfl, _⟩ := hx; exact e) | (obtain ⟨_, _, rfl, _⟩ := hx; exact e)
theorem truU_ok (R : Rel2 Z ns σ M) (hx : Rp (hole M Z) ns x d) {b : Bool} (e : truU σ x = some b) : truD M d = some b := by
  unfold truU at e
  split at e
  · rename_i e1; cases dref_it R hx e1 (fun _ h => h); exact e
  · rename_i e1; cases dref_it R hx e1 (fun _ h => h); exact e
  · rename_i e1; cases dref_it R hx e1 (fun _ h => h); exact e
  · rename_i e1; cases dref_it R hx e1 (fun _ h => h); exact e
  · rename_i us e1
    obtain ⟨ds, rfl, r⟩ := dref_it R hx e1 (fun _ h => h)
    have l := Rps.len r
    cases e
    cases us <;> cases ds <;> first | rfl | simp at l
  · rename_i e1; cases dref_it R hx e1 (fun _ h => h); exact e
  · rename_i us e1
    obtain ⟨n, ds, rfl, e2, r⟩ := dref_lst R hx e1
    have l := Rps.len r
    cases e
    rw [truD_lst e2]
    cases us <;> cases ds <;> first | rfl | simp at l
  · rename_i ks us e1
    obtain ⟨n, kvs, rfl, e2, e3, r⟩ := dref_dct R hx e1
    cases e
    unfold truD
    simp only [e2]
    subst e3
    cases kvs <;> rfl
  · cases e
end
end Dv
end

section
set_option Elab.async false
set_option autoImplicit false
set_option linter.all false
set_option maxRecDepth 100000
set_option maxHeartbeats 2000000
/-! PvE: more operations by values. -/
namespace Dv
open PySem L2
section
variable {Z ns lk : List Nat} {m : Nat} {M : Store} {σ : Cs} {x y a : U} {d d' : D} {xs us : List U} {ds : List D}
theorem Rps.drop {g : Nat → Option Ob} : ∀ (k : Nat) {us : List U} {ds : List D}, Rps g ns us ds → Rps g ns (us.drop k) (ds.drop k)
  | 0, _, _, h => h
  | k + 1, [], _, h => by cases h; exact rfl
  | k + 1, u :: us, _, h => by
    obtain ⟨d, r, rfl, _, h2⟩ := h
    exact Rps.drop k h2
theorem Rps.take {g : Nat → Option Ob} : ∀ (k : Nat) {us : List U} {ds : List D}, Rps g ns us ds → Rps g ns (us.take k) (ds.take k)
  | 0, _, _, h => rfl
  | k + 1, [], _, h => by cases h; exact rfl
  | k + 1, u :: us, _, h => by
    obtain ⟨d, r, rfl, h1, h2⟩ := h
    exact ⟨d, _, rfl, h1, Rps.take k h2⟩
theorem Rps.cut {g : Nat → Option Ob} (h : Rps g ns us ds) (lo hi : Option Int) : Rps g ns (cutG us lo hi) (cutD ds lo hi) := by
  unfold cutG cutD
  rw [← Rps.len h]
  exact Rps.take _ (Rps.drop _ h)
theorem Rps.atI {g : Nat → Option Ob} (h : Rps g ns us ds) {i : Int} {u : U} (e : L2.atI us i = some u) : ∃ d, L2.atI ds i = some d ∧ Rp g ns u d := by
  unfold L2.atI at e ⊢
  rw [← Rps.len h]
  cases q : ixN us.length i with
  | none => rw [q] at e; cases e
  | some k =>
    rw [q] at e
    exact Rps.get h e
theorem Rps.set {g : Nat → Option Ob} {u : U} {d : D} (hu : Rp g ns u d) : ∀ {us : List U} {ds : List D} (k : Nat), Rps g ns us ds → Rps g ns (us.set k u) (ds.set k d)
  | [], _, k, h => by cases h; exact rfl
  | v :: us, _, 0, h => by
    obtain ⟨d', r, rfl, h1, h2⟩ := h
    exact ⟨d, r, rfl, hu, h2⟩
  | v :: us, _, k + 1, h => by
    obtain ⟨d', r, rfl, h1, h2⟩ := h
    exact ⟨d', _, rfl, h1, Rps.set hu k h2⟩
theorem Rps.erase {g : Nat → Option Ob} : ∀ {us : List U} {ds : List D} (k : Nat), Rps g ns us ds → Rps g ns (us.eraseIdx k) (ds.eraseIdx k)
  | [], _, k, h => by cases h; exact rfl
  | v :: us, _, 0, h => by
    obtain ⟨d', r, rfl, h1, h2⟩ := h
    exact h2
  | v :: us, _, k + 1, h => by
    obtain ⟨d', r, rfl, h1, h2⟩ := h
    exact ⟨d', _, rfl, h1, Rps.erase k h2⟩
theorem Rps.dropLast {g : Nat → Option Ob} : ∀ {us : List U} {ds : List D}, Rps g ns us ds → Rps g ns us.dropLast ds.dropLast
  | [], _, h => by cases h; exact rfl
  | [u], _, h => by
    obtain ⟨d', r, rfl, h1, h2⟩ := h
    cases h2
    exact rfl
  | u :: v :: us, _, h => by
    obtain ⟨d', r, rfl, h1, h2⟩ := h
    have q := Rps.dropLast h2
    obtain ⟨d2, r2, rfl, h3, h4⟩ := h2
    exact ⟨d', _, rfl, h1, q⟩
theorem Rps.reverse {g : Nat → Option Ob} : ∀ {us : List U} {ds : List D}, Rps g ns us ds → Rps g ns us.reverse ds.reverse
  | [], _, h => by cases h; exact rfl
  | u :: us, _, h => by
    obtain ⟨d', r, rfl, h1, h2⟩ := h
    rw [List.reverse_cons, List.reverse_cons]
    exact Rps.app (Rps.one h1) (Rps.reverse h2)
theorem Rps.map_int {g : Nat → Option Ob} : ∀ xs : List Int, Rps g ns (xs.map U.int) (xs.map D.int)
  | [] => rfl
  | x :: r => ⟨_, _, rfl, rfl, Rps.map_int r⟩
theorem Rps.map_str {g : Nat → Option Ob} : ∀ xs : List Str, Rps g ns (xs.map U.str) (xs.map D.str)
  | [] => rfl
  | x :: r => ⟨_, _, rfl, rfl, Rps.map_str r⟩
theorem Rps.map_pair {g : Nat → Option Ob} : ∀ xs : List (Int × Int), Rps g ns (xs.map pairU) (xs.map pairD)
  | [] => rfl
  | x :: r => ⟨_, _, rfl, ⟨_, rfl, _, _, rfl, rfl, _, _, rfl, rfl, rfl⟩, Rps.map_pair r⟩
theorem Rps.map_key {g : Nat → Option Ob} {g' : Nat → Option Ob} : ∀ xs : List Key, Rps g ns (xs.map keyU) (xs.map keyD)
  | [] => rfl
  | x :: r => ⟨_, _, rfl, by cases x <;> rfl, Rps.map_key (g' := g') r⟩
theorem ints_ok {g : Nat → Option Ob} : ∀ {us : List U} {ds : List D} {is : List Int}, Rps g ns us ds → intsU us = some is → intsOf ds = some is
  | [], _, is, h, e => by cases h; cases e; rfl
  | u :: us, _, is, h, e => by
    obtain ⟨d, r, rfl, h1, h2⟩ := h
    cases u <;> first | (cases e; done) | skip
    cases h1
    rename_i i
    have e : (intsU us).map (i :: ·) = some is := e
    cases q : intsU us with
    | none => rw [q] at e; cases e
    | some js =>
      rw [q] at e
      show (intsOf r).map (i :: ·) = _
      rw [ints_ok h2 q]
      exact e
theorem strs_ok {g : Nat → Option Ob} : ∀ {us : List U} {ds : List D} {is : List Str}, Rps g ns us ds → strsU us = some is → strsOf ds = some is
  | [], _, is, h, e => by cases h; cases e; rfl
  | u :: us, _, is, h, e => by
    obtain ⟨d, r, rfl, h1, h2⟩ := h
    cases u <;> first | (cases e; done) | skip
    cases h1
    rename_i i
    have e : (strsU us).map (i :: ·) = some is := e
    cases q : strsU us with
    | none => rw [q] at e; cases e
    | some js =>
      rw [q] at e
      show (strsOf r).map (i :: ·) = _
      rw [strs_ok h2 q]
      exact e
theorem pairs_ok {g : Nat → Option Ob} : ∀ {us : List U} {ds : List D} {is : List (Int × Int)}, Rps g ns us ds → pairsU us = some is → pairsOf ds = some is
  | [], _, is, h, e => by cases h; cases e; rfl
  | u :: us, _, is, h, e => by
    obtain ⟨d, r, rfl, h1, h2⟩ := h
    unfold pairsU at e
    split at e
    · rename_i e'; cases e'
    · rename_i i j r' e'
      obtain ⟨rfl, rfl⟩ := List.cons.inj e'
      obtain ⟨_, rfl, _, _, rfl, e1, _, _, rfl, e2, e3⟩ := h1
      cases e1; cases e2; cases e3
      cases q : pairsU us with
      | none => rw [q] at e; cases e
      | some js =>
        rw [q] at e
        show (pairsOf r).map ((i, j) :: ·) = _
        rw [pairs_ok h2 q]
        exact e
    · cases e
theorem noints {g : Nat → Option Ob} : ∀ {us : List U} {ds : List D}, Rps g ns us ds → intsU us = none → intsOf ds = none
  | [], _, h, e => by cases e
  | u :: us, _, h, e => by
    obtain ⟨d, r, rfl, h1, h2⟩ := h
    cases u <;> simp only [Rp] at h1 <;> first | (subst h1; first | rfl | skip) | (obtain ⟨_, rfl, _⟩ := h1; rfl) | (obtain ⟨_, _, rfl, _⟩ := h1; rfl)
    rename_i i
    have e : (intsU us).map (i :: ·) = none := e
    show (intsOf r).map (i :: ·) = none
    cases q : intsU us with
    | none => rw [noints h2 q]; rfl
    | some js => rw [q] at e; cases e
/-! ### operators -/
theorem binU_ok (R : Rel2 Z ns σ M) (hx : Rp (hole M Z) ns x d) (hy : Rp (hole M Z) ns y d') (o : Op) : Sim Z ns lk m M (RVF Z ns M) (ofU (binU o σ x y) σ) (binE o M d d') := by
  cases q : binU o σ x y with
  | none => exact True.intro
  | some r =>
    cases o with
    | add =>
      unfold binU at q
      simp only at q
      split at q
      · rename_i e1 e2
        cases dref_it R hx e1 (fun _ h => h); cases dref_it R hy e2 (fun _ h => h)
        cases q
        exact val_okF R rfl rfl
      · rename_i e1 e2
        cases dref_it R hx e1 (fun _ h => h); cases dref_it R hy e2 (fun _ h => h)
        split at q
        · rename_i l
          cases q
          show Sim Z ns lk m M _ _ (if _ then _ else _)
          rw [if_pos l]
          exact val_okF R rfl rfl
        · cases q
      · rename_i e1 e2
        obtain ⟨ds, rfl, r1⟩ := dref_it R hx e1 (fun _ h => h)
        obtain ⟨es, rfl, r2⟩ := dref_it R hy e2 (fun _ h => h)
        split at q
        · rename_i l
          cases q
          show Sim Z ns lk m M _ _ (if _ then _ else _)
          rw [Rps.len r1, Rps.len r2] at l
          rw [if_pos l]
          exact val_okF R ⟨_, rfl, Rps.app r2 r1⟩ rfl
        · cases q
      · rename_i e1 e2
        obtain ⟨n, ds, rfl, h1, r1⟩ := dref_lst R hx e1
        obtain ⟨k, es, rfl, h2, r2⟩ := dref_lst R hy e2
        split at q
        · rename_i l
          cases q
          show Sim Z ns lk m M _ _ (match lstAt M n, lstAt M k with | some xs, some ys => lstG M (xs ++ ys) | _, _ => .bad)
          rw [lstAt_eq.mpr h1, lstAt_eq.mpr h2]
          show Sim Z ns lk m M _ _ (if _ then _ else _)
          rw [Rps.len r1, Rps.len r2, ← List.length_append] at l
          rw [if_pos l]
          exact lst_ok2 R (Rps.app r2 r1)
        · cases q
      · cases q
    | sub => cases x <;> cases y <;> first | (cases q; done) | (cases hx; cases hy; cases q; exact val_okF R rfl rfl)
    | mul =>
      cases x <;> cases y <;> first | (cases q; done) | skip
      · cases hx; cases hy
        unfold binU at q
        simp only at q
        split at q
        · rename_i l
          cases q
          show Sim Z ns lk m M _ _ (if _ then _ else _)
          rw [if_pos l]
          exact val_okF R rfl rfl
        · cases q
      · cases hx; cases hy
        unfold binU at q
        simp only at q
        split at q
        · rename_i l
          cases q
          show Sim Z ns lk m M _ _ (if _ then _ else _)
          rw [if_pos l]
          exact val_okF R rfl rfl
        · cases q
    | fdiv =>
      cases x <;> cases y <;> first | (cases q; done) | skip
      cases hx; cases hy
      unfold binU at q
      simp only at q
      split at q
      · rename_i l
        cases q
        show Sim Z ns lk m M _ _ (if _ then _ else _)
        rw [if_pos l]
        exact val_okF R rfl rfl
      · cases q
    | mod =>
      cases x <;> cases y <;> first | (cases q; done) | skip
      cases hx; cases hy
      unfold binU at q
      simp only at q
      split at q
      · rename_i l
        cases q
        show Sim Z ns lk m M _ _ (if _ then _ else _)
        rw [if_pos l]
        exact val_okF R rfl rfl
      · cases q
    | pow =>
      cases x <;> cases y <;> first | (cases q; done) | skip
      cases hx; cases hy
      unfold binU at q
      simp only at q
      split at q
      · rename_i l
        cases q
        show Sim Z ns lk m M _ _ (if _ then _ else _)
        rw [if_pos l]
        exact val_okF R rfl rfl
      · cases q
theorem idxU_ok (R : Rel2 Z ns σ M) (hx : Rp (hole M Z) ns x d) (hy : Rp (hole M Z) ns y d') (e : idxU σ x y = some a) : ∃ r, idxE M d d' = some r ∧ Rp (hole M Z) ns a r := by
  unfold idxU at e
  split at e
  · rename_i z e1
    cases dref_it R hx e1 (fun _ h => h)
    cases y <;> first | (cases e; done) | skip
    cases hy
    rename_i i
    simp only at e
    split at e
    · rename_i l
      unfold idxE
      simp only
      rw [if_pos l]
      cases q : L2.atI z.cps.toList i with
      | none => rw [q] at e; cases e
      | some c => rw [q] at e; cases e; exact ⟨_, rfl, rfl⟩
    · cases e
  · rename_i us e1
    obtain ⟨ds, rfl, r⟩ := dref_it R hx e1 (fun _ h => h)
    cases y <;> first | (cases e; done) | skip
    cases hy
    exact Rps.atI r e
  · rename_i us e1
    cases dref_it R hx e1 (fun _ h => h)
    cases y <;> first | (cases e; done) | skip
    cases hy
    rename_i i
    have e : (L2.atI us i).map U.int = some a := e
    show ∃ r, (L2.atI us i).map D.int = some r ∧ _
    cases q : L2.atI us i with
    | none => rw [q] at e; cases e
    | some c => rw [q] at e; cases e; exact ⟨_, rfl, rfl⟩
  · rename_i us e1
    obtain ⟨n, ds, rfl, e2, r⟩ := dref_lst R hx e1
    cases y <;> first | (cases e; done) | skip
    cases hy
    unfold idxE
    simp only [e2]
    exact Rps.atI r e
  · rename_i ks us e1
    obtain ⟨n, kvs, rfl, e2, e3, r⟩ := dref_dct R hx e1
    split at e
    · rename_i k ek
      unfold idxE
      simp only [e2]
      rw [Rp.key hy ek]
      show ∃ r, valK kvs k = some r ∧ _
      rw [lkp_valK, e3]
      have q := lkp_ok (ks := ks) (k := k) r
      rw [e] at q
      exact q
    · cases e
  · rename_i ks us e1
    obtain ⟨n, kvs, rfl, e2, e3, r⟩ := dref_dtt R hx e1
    split at e
    · rename_i vs
      split at e
      · rename_i k ek
        obtain ⟨es, rfl, re⟩ := hy
        unfold idxE
        simp only [e2]
        rw [keys_ok re ek]
        show ∃ r, valK kvs k = some r ∧ _
        rw [lkp_valK, e3]
        have q := lkp_ok (ks := ks) (k := k) r
        rw [e] at q
        exact q
      · cases e
    · cases e
  · cases e
theorem slcU_ok (R : Rel2 Z ns σ M) (hx : Rp (hole M Z) ns x d) (lo hi : Option Int) : Sim Z ns lk m M (RVF Z ns M) (ofU (slcU σ x lo hi) σ) (slcE M d lo hi) := by
  cases q : slcU σ x lo hi with
  | none => exact True.intro
  | some r =>
    unfold slcU at q
    split at q
    · rename_i z e1
      cases dref_it R hx e1 (fun _ h => h)
      split at q
      · rename_i l
        cases q
        show Sim Z ns lk m M _ _ (if _ then _ else _)
        rw [if_pos l]
        exact val_okF R rfl rfl
      · cases q
    · rename_i us e1
      obtain ⟨ds, rfl, r⟩ := dref_it R hx e1 (fun _ h => h)
      cases q
      exact val_okF R ⟨_, rfl, Rps.cut r lo hi⟩ rfl
    · rename_i us e1
      obtain ⟨n, ds, rfl, e2, r⟩ := dref_lst R hx e1
      cases q
      show Sim Z ns lk m M _ _ (match lstAt M n with | some xs => mk M (.lst (cutD xs lo hi)) | none => .bad)
      rw [lstAt_eq.mpr e2]
      exact lst_ok2 R (Rps.cut r lo hi)
    · cases q
theorem isiU_ok (R : Rel2 Z ns σ M) (hx : Rp (hole M Z) ns x d) {t : Ty} {b : Bool} (e : isiU σ x t = some b) : isiE M d t = some b := by
  unfold isiU at e
  split at e
  · rename_i e1; cases dref_it R hx e1 (fun _ h => h); cases t <;> exact e
  · rename_i e1; cases dref_it R hx e1 (fun _ h => h); cases t <;> exact e
  · rename_i e1; cases dref_it R hx e1 (fun _ h => h); cases t <;> exact e
  · rename_i e1; cases dref_it R hx e1 (fun _ h => h); cases t <;> exact e
  · rename_i e1; obtain ⟨ds, rfl, r⟩ := dref_it R hx e1 (fun _ h => h); cases t <;> exact e
  · rename_i us e1
    obtain ⟨n, ds, rfl, e2, r⟩ := dref_lst R hx e1
    have l := lstAt_eq.mpr e2
    cases t <;> (unfold isiE; simp only [l]; exact e)
  · cases e
theorem revU_ok (R : Rel2 Z ns σ M) (hx : Rp (hole M Z) ns x d) : Sim Z ns lk m M (RVF Z ns M) (revU σ x) (revE M d) := by
  unfold revU
  split
  · rename_i xs e
    obtain ⟨n, ds, rfl, e1, e2, r⟩ := lstU_ok R hx e
    show Sim Z ns lk m M _ _ (match lstAt M n with | some xs => mk M (.lst xs.reverse) | none => .bad)
    rw [e2]
    exact lst_ok2 R (Rps.reverse r)
  · exact True.intro
theorem sc_val {u : U} {r : D} (R : Rel2 Z ns σ M) (h : Rp (hole M Z) ns u r) (hb : u.box = false) {o : Out D} (e : o = .ok r M) : Sim Z ns lk m M (RVF Z ns M) (.ok u σ false) o := by
  rw [e]
  exact val_okF R h hb
theorem sc_int {i : Int} (R : Rel2 Z ns σ M) {o : Out D} (e : o = .ok (.int i) M) : Sim Z ns lk m M (RVF Z ns M) (.ok (.int i) σ false) o := sc_val (u := .int i) (r := .int i) R rfl rfl e
theorem sc_str {i : Str} (R : Rel2 Z ns σ M) {o : Out D} (e : o = .ok (.str i) M) : Sim Z ns lk m M (RVF Z ns M) (.ok (.str i) σ false) o := sc_val (u := .str i) (r := .str i) R rfl rfl e
theorem biU_ok (R : Rel2 Z ns σ M) (h : Rps (hole M Z) ns us ds) (b : Bi) : Sim Z ns lk m M (RVF Z ns M) (ofU (biU b σ us) σ) (biE b M ds) := by
  cases q : biU b σ us with
  | none => exact True.intro
  | some r =>
    show Sim Z ns lk m M (RVF Z ns M) (.ok r σ false) (biE b M ds)
    unfold biU at q
    cases b with
    | len =>
      simp only at q
      split at q
      · rename_i x
        obtain ⟨d, _, rfl, hx, e⟩ := h
        cases e
        split at q
        · rename_i z e1
          cases dref_it R hx e1 (fun _ h => h)
          split at q
          · rename_i l
            cases q
            exact sc_int R (show (if _ then _ else _) = _ from if_pos l)
          · cases q
        · rename_i us e1
          obtain ⟨n, ds, rfl, e2, r⟩ := dref_lst R hx e1
          cases q
          refine sc_int R ?_
          rw [len_loc e2, Rps.len r]
        · rename_i us e1
          obtain ⟨ds, rfl, r⟩ := dref_it R hx e1 (fun _ h => h)
          cases q
          refine sc_int R ?_
          show Out.ok (D.int ds.length) M = _
          rw [Rps.len r]
        · rename_i us e1
          cases dref_it R hx e1 (fun _ h => h)
          cases q
          exact sc_int R (len_rol us)
        · cases q
      · cases q
    | int =>
      simp only at q
      split at q
      · obtain ⟨d, _, rfl, hx, e⟩ := h; cases e; cases hx; cases q
        exact val_okF R rfl rfl
      · obtain ⟨d, _, rfl, hx, e⟩ := h; cases e; cases hx; cases q
        exact val_okF R rfl rfl
      · obtain ⟨d, _, rfl, hx, e⟩ := h; cases e; cases hx
        split at q
        · rename_i z _ n en
          split at q
          · rename_i l
            cases q
            refine sc_int R ?_
            show (match PySem.intText? z with | some n => if z.length ≤ 640 then Out.ok (D.int n) M else .bad | none => .bad) = _
            rw [en]
            exact if_pos l
          · cases q
        · cases q
      · cases q
    | abs =>
      simp only at q
      split at q
      · obtain ⟨d, _, rfl, hx, e⟩ := h; cases e; cases hx; cases q
        exact val_okF R rfl rfl
      · cases q
    | min =>
      simp only at q
      split at q
      · obtain ⟨d, _, rfl, hx, d2, _, rfl, hx2, e⟩ := h; cases e; cases hx; cases hx2; cases q
        exact val_okF R rfl rfl
      · rename_i x
        obtain ⟨d, _, rfl, hx, e⟩ := h
        cases e
        cases e1 : lstU σ x with
        | none => rw [e1] at q; cases q
        | some vs =>
          rw [e1] at q
          obtain ⟨n, es, rfl, e2, e3, r2⟩ := lstU_ok R hx e1
          have q : (match intsU vs with | some is => (minI is).map U.int | none => none) = some r := q
          cases e4 : intsU vs with
          | none => rw [e4] at q; cases q
          | some is =>
            rw [e4] at q
            have q : (minI is).map U.int = some r := q
            cases e5 : minI is with
            | none => rw [e5] at q; cases q
            | some i =>
              rw [e5] at q
              cases q
              refine sc_int R ?_
              show (match (lstAt M n).bind intsOf with | some is => ofO ((minI is).map D.int) M | none => .bad) = _
              rw [e3]
              show (match intsOf es with | some is => ofO ((minI is).map D.int) M | none => .bad) = _
              rw [ints_ok r2 e4]
              show ofO ((minI is).map D.int) M = _
              rw [e5]
              rfl
      · cases q
    | max =>
      simp only at q
      split at q
      · obtain ⟨d, _, rfl, hx, d2, _, rfl, hx2, e⟩ := h; cases e; cases hx; cases hx2; cases q
        exact val_okF R rfl rfl
      · rename_i x
        obtain ⟨d, _, rfl, hx, e⟩ := h
        cases e
        cases e1 : lstU σ x with
        | none => rw [e1] at q; cases q
        | some vs =>
          rw [e1] at q
          obtain ⟨n, es, rfl, e2, e3, r2⟩ := lstU_ok R hx e1
          have q : (match intsU vs with | some is => (maxI is).map U.int | none => none) = some r := q
          cases e4 : intsU vs with
          | none => rw [e4] at q; cases q
          | some is =>
            rw [e4] at q
            have q : (maxI is).map U.int = some r := q
            cases e5 : maxI is with
            | none => rw [e5] at q; cases q
            | some i =>
              rw [e5] at q
              cases q
              refine sc_int R ?_
              show (match (lstAt M n).bind intsOf with | some is => ofO ((maxI is).map D.int) M | none => .bad) = _
              rw [e3]
              show (match intsOf es with | some is => ofO ((maxI is).map D.int) M | none => .bad) = _
              rw [ints_ok r2 e4]
              show ofO ((maxI is).map D.int) M = _
              rw [e5]
              rfl
      · cases q
    | sum =>
      simp only at q
      split at q
      · rename_i x
        obtain ⟨d, _, rfl, hx, e⟩ := h
        cases e
        cases e1 : lstU σ x with
        | none => rw [e1] at q; cases q
        | some vs =>
          rw [e1] at q
          obtain ⟨n, es, rfl, e2, e3, r2⟩ := lstU_ok R hx e1
          have q : (match intsU vs with | some is => some (U.int is.sum) | none => none) = some r := q
          cases e4 : intsU vs with
          | none => rw [e4] at q; cases q
          | some is =>
            rw [e4] at q
            cases q
            refine sc_int R ?_
            show (match (lstAt M n).bind intsOf with | some is => Out.ok (D.int is.sum) M | none => .bad) = _
            rw [e3]
            show (match intsOf es with | some is => Out.ok (D.int is.sum) M | none => .bad) = _
            rw [ints_ok r2 e4]
      · cases q
    | str =>
      simp only at q
      split at q
      · obtain ⟨d, _, rfl, hx, e⟩ := h; cases e; cases hx
        split at q
        · rename_i l
          cases q
          exact sc_str R (show (if _ then _ else _) = _ from if_pos l)
        · cases q
      · cases q
    | list =>
      simp only at q
      split at q
      · rename_i x
        obtain ⟨d, _, rfl, hx, e⟩ := h
        cases e
        split at q
        · rename_i us e1
          obtain ⟨n, ds, rfl, e2, r⟩ := dref_lst R hx e1
          cases q
          show Sim Z ns lk m M _ _ (match M[n]? with | some (.lst xs) => _ | some (.dct kvs) => _ | _ => _)
          rw [e2]
          exact lst_ok2 R r
        · rename_i us e1
          obtain ⟨ds, rfl, r⟩ := dref_it R hx e1 (fun _ h => h)
          cases q
          exact lst_ok2 R r
        · rename_i ks us e1
          obtain ⟨n, kvs, rfl, e2, e3, r⟩ := dref_dct R hx e1
          cases q
          show Sim Z ns lk m M _ _ (match M[n]? with | some (.lst xs) => _ | some (.dct kvs) => _ | _ => _)
          rw [e2]
          refine lst_ok2 R ?_
          rw [← e3, show (kvs.map fun kv => keyD kv.1) = (kvs.map (·.1)).map keyD from by rw [List.map_map]; rfl]
          exact Rps.map_key (g' := fun _ => none) _
        · cases q
      · cases q
    | tuple =>
      simp only at q
      split at q
      · rename_i x
        obtain ⟨d, _, rfl, hx, e⟩ := h
        cases e
        split at q
        · rename_i vs e1
          obtain ⟨n, es, rfl, e2, e3, r2⟩ := lstU_ok R hx e1
          cases q
          refine sc_val (u := .tup vs) (r := .tup es) R ⟨_, rfl, r2⟩ rfl ?_
          show (match lstAt M n with | some xs => Out.ok (D.tup xs) M | none => .bad) = _
          rw [e3]
        · cases q
      · cases q
    | sorted =>
      simp only at q
      split at q
      · rename_i x
        obtain ⟨d, _, rfl, hx, e⟩ := h
        cases e
        split at q
        · rename_i vs e1
          obtain ⟨n, es, rfl, e2, e3, r2⟩ := lstU_ok R hx e1
          show Sim Z ns lk m M _ _ (match lstAt M n with | some xs => (match intsOf xs with | some is => mk M (.lst ((sortI is).map D.int)) | none => (match pairsOf xs with | some ps => mk M (.lst ((sortP ps).map pairD)) | none => .bad)) | none => .bad)
          rw [e3]
          simp only
          split at q
          · rename_i is e4
            cases q
            rw [ints_ok r2 e4]
            exact lst_ok2 R (Rps.map_int _)
          · rename_i e4
            rw [noints r2 e4]
            simp only
            split at q
            · rename_i ps e5
              cases q
              rw [pairs_ok r2 e5]
              exact lst_ok2 R (Rps.map_pair _)
            · cases q
        · cases q
      · cases q
end
end Dv
end

section
set_option Elab.async false
set_option autoImplicit false
set_option linter.all false
set_option maxRecDepth 100000
set_option maxHeartbeats 2000000
/-! PvF: methods, what is put in, what is walked. -/
namespace Dv
open PySem L2
section
variable {Z ns lk : List Nat} {m : Nat} {M : Store} {σ : Cs} {x y a : U} {d d' : D} {xs us : List U} {ds : List D}
theorem locsL_app : ∀ (xs ys : List D), locsL 0 (xs ++ ys) = locsL 0 xs ++ locsL 0 ys
  | [], ys => rfl
  | x :: xs, ys => by
    show x.locs 0 ++ locsL 0 (xs ++ ys) = (x.locs 0 ++ locsL 0 xs) ++ locsL 0 ys
    rw [locsL_app xs ys, List.append_assoc]
theorem locsL_mem {xs : List D} {a : Nat} : a ∈ locsL 0 xs ↔ ∃ d ∈ xs, a ∈ d.locs 0 := by
  induction xs with
  | nil => simp [locsL]
  | cons x r ih =>
    show a ∈ x.locs 0 ++ locsL 0 r ↔ _
    rw [List.mem_append, ih]
    simp
theorem locsL_sub {xs ys : List D} (h : ∀ d ∈ xs, d ∈ ys) : ∀ a ∈ locsL 0 xs, a ∈ locsL 0 ys := fun a ha => by
  obtain ⟨d, hd, h2⟩ := locsL_mem.mp ha
  exact locsL_mem.mpr ⟨d, h d hd, h2⟩
/-- the cell of a value -/
theorem cel_at (R : Rel2 Z ns σ M) {k : Nat} {u : U} (h : Rp (hole M Z) ns (.cel k) d) (e : σ[k]? = some u) : ∃ n o, d = .loc n ∧ ns[k]? = some n ∧ M[n]? = some o ∧ Rc (hole M Z) ns u o := by
  obtain ⟨n, rfl, e1⟩ := h
  obtain ⟨n', o, e2, e3, r⟩ := R.ob k u e
  rw [e1] at e2
  cases e2
  exact ⟨n, o, rfl, e1, e3, r⟩
theorem cel_lst (R : Rel2 Z ns σ M) {k : Nat} (h : Rp (hole M Z) ns (.cel k) d) (e : σ[k]? = some (.lst xs)) : ∃ n ds, d = .loc n ∧ ns[k]? = some n ∧ M[n]? = some (.lst ds) ∧ lstAt M n = some ds ∧ Rps (hole M Z) ns xs ds := by
  obtain ⟨n, o, rfl, e1, e2, ds, rfl, r⟩ := cel_at R h e
  exact ⟨n, ds, rfl, e1, e2, lstAt_eq.mpr e2, r⟩
theorem bmTyU_ok (R : Rel2 Z ns σ M) (hx : Rp (hole M Z) ns x d) {b : Bm} (e : bmTyU b σ x = true) : bmTy b M d = true := by
  have L : (lstU σ x).isSome = true → ∃ n ds, d = .loc n ∧ lstAt M n = some ds := fun z => by
    obtain ⟨xs, e1⟩ := Option.isSome_iff_exists.mp z
    obtain ⟨n, ds, rfl, _, e2, _⟩ := lstU_ok R hx e1
    exact ⟨n, ds, rfl, e2⟩
  cases b with
  | append => obtain ⟨n, ds, rfl, e2⟩ := L e; show (lstAt M n).isSome = true; rw [e2]; rfl
  | extend => obtain ⟨n, ds, rfl, e2⟩ := L e; show (lstAt M n).isSome = true; rw [e2]; rfl
  | pop => obtain ⟨n, ds, rfl, e2⟩ := L e; show (lstAt M n).isSome = true; rw [e2]; rfl
  | index => obtain ⟨n, ds, rfl, e2⟩ := L e; show (lstAt M n).isSome = true; rw [e2]; rfl
  | split => cases x <;> first | (cases e; done) | (cases hx; rfl)
  | join => cases x <;> first | (cases e; done) | (cases hx; rfl)
  | startswith => cases x <;> first | (cases e; done) | (cases hx; rfl)
  | get =>
    have e : (match dref σ x with | some (.dct _ _) => true | _ => false) = true := e
    split at e
    · rename_i ks us e1
      obtain ⟨n, kvs, rfl, e2, _⟩ := dref_dct R hx e1
      show (match M[n]? with | some (.dct _) => true | _ => false) = true
      rw [e2]
    · cases e
theorem findU_ok {v : D} : ∀ {us : List U} {j : Nat}, findU (fun y => eqS y.fd v) us = some j → findD (fun y => eqS y v) (us.map U.fd) = some j
  | [], j, e => by cases e
  | u :: us, j, e => by
    rw [List.map_cons]
    unfold findU at e
    unfold findD
    by_cases h : eqS u.fd v = true
    · rw [if_pos h] at e ⊢
      exact e
    · rw [if_neg h] at e ⊢
      cases q : findU (fun y => eqS y.fd v) us with
      | none => rw [q] at e; cases e
      | some i => rw [q] at e; rw [findU_ok q]; exact e
theorem bmU_ok (R : Rel2 Z ns σ M) (hx : Rp (hole M Z) ns x d) (h : Rps (hole M Z) ns us ds) (b : Bm) : Sim Z ns lk m M (RV2 Z ns) (bmU lk m b σ x us) (bmE b M d ds) := by
  unfold bmU
  cases b with
  | append =>
    simp only
    split
    · rename_i k v
      obtain ⟨dv, _, rfl, hv, e⟩ := h
      cases e
      split
      · rename_i xs e1
        obtain ⟨n, es, rfl, e2, e3, e4, r⟩ := cel_lst R hx e1
        split
        · rename_i l
          show Sim Z ns lk m M _ _ (match M[n]? with | some (.lst xs) => if xs.length < sizeLine then Out.ok D.non (M.set n (.lst (xs ++ [dv]))) else .bad | _ => .bad)
          rw [e3]
          show Sim Z ns lk m M _ _ (if _ then _ else _)
          rw [Rps.len r] at l
          rw [if_pos l]
          refine putC_ok R e1 e2 e3 ⟨_, rfl, Rps.app (Rps.one hv) r⟩ (fun z a ha => ?_) rfl
          have ha : a ∈ locsL 0 (es ++ [dv]) := ha
          rw [locsL_app, List.mem_append] at ha
          rcases ha with ha | ha
          · exact ha
          · have := (Rp.flat (g' := fun _ => none) (ns' := []) v dv z hv).2.2
            have ha : a ∈ dv.locs 0 ++ [] := ha
            rw [this] at ha
            cases ha
        · exact True.intro
      · exact True.intro
    · exact True.intro
  | extend =>
    simp only
    split
    · rename_i k v
      obtain ⟨dv, _, rfl, hv, e⟩ := h
      cases e
      split
      · rename_i xs ys e1 e1'
        obtain ⟨n, es, rfl, e2, e3, e4, r⟩ := cel_lst R hx e1
        obtain ⟨n2, fs, rfl, f1, f2, r2⟩ := lstU_ok R hv e1'
        split
        · rename_i l
          show Sim Z ns lk m M _ _ (match M[n]?, M[n2]? with | some (.lst xs), some (.lst ys) => if xs.length + ys.length ≤ sizeLine then Out.ok D.non (M.set n (.lst (xs ++ ys))) else .bad | _, _ => .bad)
          rw [e3, f1]
          show Sim Z ns lk m M _ _ (if _ then _ else _)
          rw [Rps.len r, Rps.len r2] at l
          rw [if_pos l]
          refine putC_ok R e1 e2 e3 ⟨_, rfl, Rps.app r2 r⟩ (fun z a ha => ?_) rfl
          have ha : a ∈ locsL 0 (es ++ fs) := ha
          rw [locsL_app, List.mem_append] at ha
          rcases ha with ha | ha
          · exact ha
          · have := (Rps.flat (g' := fun _ => none) (ns' := []) ys fs z r2).2.2
            rw [this] at ha
            cases ha
        · exact True.intro
      · exact True.intro
    · exact True.intro
  | pop =>
    simp only
    split
    · rename_i k
      cases h
      split
      · rename_i xs e1
        obtain ⟨n, es, rfl, e2, e3, e4, r⟩ := cel_lst R hx e1
        split
        · rename_i v ev
          obtain ⟨dv, ed, hv⟩ := Rps.get r ev
          show Sim Z ns lk m M _ _ (match M[n]? with | some (.lst xs) => (match xs[xs.length - 1]? with | some x => .ok x (M.set n (.lst xs.dropLast)) | none => .bad) | _ => .bad)
          rw [e3]
          show Sim Z ns lk m M _ _ (match es[es.length - 1]? with | some x => .ok x (M.set n (.lst es.dropLast)) | none => .bad)
          rw [← Rps.len r, ed]
          exact putC_ok R e1 e2 e3 ⟨_, rfl, Rps.dropLast r⟩ (fun _ => locsL_sub fun d hd => List.dropLast_subset _ hd) hv
        · exact True.intro
      · exact True.intro
    · rename_i k i
      obtain ⟨dv, _, rfl, hv, e⟩ := h
      cases e
      cases hv
      split
      · rename_i xs e1
        obtain ⟨n, es, rfl, e2, e3, e4, r⟩ := cel_lst R hx e1
        split
        · rename_i j ej
          split
          · rename_i v ev
            obtain ⟨dv, ed, hv⟩ := Rps.get r ev
            show Sim Z ns lk m M _ _ (match M[n]? with | some (.lst xs) => (match ixN xs.length i with | some k => (match xs[k]? with | some x => .ok x (M.set n (.lst (xs.eraseIdx k))) | none => .bad) | none => .bad) | _ => .bad)
            rw [e3]
            show Sim Z ns lk m M _ _ (match ixN es.length i with | some k => (match es[k]? with | some x => .ok x (M.set n (.lst (es.eraseIdx k))) | none => .bad) | none => .bad)
            rw [← Rps.len r, ej]
            show Sim Z ns lk m M _ _ (match es[j]? with | some x => .ok x (M.set n (.lst (es.eraseIdx j))) | none => .bad)
            rw [ed]
            exact putC_ok R e1 e2 e3 ⟨_, rfl, Rps.erase j r⟩ (fun _ => locsL_sub fun d hd => List.eraseIdx_subset hd) hv
          · exact True.intro
        · exact True.intro
      · exact True.intro
    · exact True.intro
  | index =>
    simp only
    split
    · rename_i v
      obtain ⟨dv, _, rfl, hv, e⟩ := h
      cases e
      split
      · rename_i ys e1
        obtain ⟨n, es, rfl, e2, e3, r⟩ := lstU_ok R hx e1
        split
        · rename_i s
          split
          · rename_i j ej
            obtain ⟨z1, z2⟩ := Bool.and_eq_true_iff.mp s
            obtain ⟨s1, s2⟩ := Rp.sc hv
            obtain ⟨t1, t2⟩ := Rps.sc r
            refine Sim.toV (sc_int R ?_)
            show (match M[n]? with | some (.lst ys) => (if (dv.sc && ys.all D.sc) = true then (match findD (fun y => eqS y dv) ys with | some j => Out.ok (D.int j) M | none => .bad) else .bad) | _ => .bad) = _
            rw [e2]
            show (if (dv.sc && es.all D.sc) = true then (match findD (fun y => eqS y dv) es with | some j => Out.ok (D.int j) M | none => .bad) else .bad) = _
            rw [s1, t1, if_pos s, t2 z2, s2 z1, findU_ok ej]
          · exact True.intro
        · exact True.intro
      · exact True.intro
    · exact True.intro
  | split =>
    simp only
    split
    · obtain ⟨dv, _, rfl, hv, e⟩ := h
      cases e
      cases hv
      cases hx
      split
      · rename_i l
        show Sim Z ns lk m M _ _ (if _ then _ else _)
        rw [if_pos l]
        exact Sim.toV (lst_ok2 R (Rps.map_str _))
      · exact True.intro
    · exact True.intro
  | join =>
    simp only
    split
    · rename_i v
      obtain ⟨dv, _, rfl, hv, e⟩ := h
      cases e
      cases hx
      rename_i aa
      cases e1 : lstU σ v with
      | none => exact True.intro
      | some vs =>
        obtain ⟨n, es, rfl, e2, e3, r⟩ := lstU_ok R hv e1
        show Sim Z ns lk m M _ (match strsU vs with | some ys => _ | none => _) _
        cases e4 : strsU vs with
        | none => exact True.intro
        | some zs =>
          show Sim Z ns lk m M _ (if _ then _ else _) (match (lstAt M n).bind strsOf with | some ys => if (ys.map (·.length)).sum + ys.length * aa.length ≤ 16777216 then Out.ok (D.str (Txt.join aa ys)) M else .bad | none => .bad)
          rw [e3]
          show Sim Z ns lk m M _ (if _ then _ else _) (match strsOf es with | some ys => if (ys.map (·.length)).sum + ys.length * aa.length ≤ 16777216 then Out.ok (D.str (Txt.join aa ys)) M else .bad | none => .bad)
          rw [strs_ok r e4]
          by_cases l : (zs.map (·.length)).sum + zs.length * aa.length ≤ 16777216
          · rw [if_pos l]
            refine Sim.toV (sc_str R ?_)
            exact if_pos l
          · rw [if_neg l]
            exact True.intro
    · exact True.intro
  | startswith =>
    simp only
    split
    · obtain ⟨dv, _, rfl, hv, e⟩ := h
      cases e
      cases hv
      cases hx
      exact val_ok (x := .bl _) (d := .bl _) R rfl
    · exact True.intro
  | get =>
    simp only
    split
    · rename_i v
      obtain ⟨dv, _, rfl, hv, e⟩ := h
      cases e
      split
      · rename_i ks us e1
        obtain ⟨n, kvs, rfl, e2, e3, r⟩ := dref_dct R hx e1
        split
        · rename_i k ek
          show Sim Z ns lk m M _ _ (match M[n]? with | some (.dct kvs) => (match dv.key? with | some k => .ok ((valK kvs k).getD .non) M | none => .bad) | _ => .bad)
          rw [e2]
          show Sim Z ns lk m M _ _ (match dv.key? with | some k => .ok ((valK kvs k).getD .non) M | none => .bad)
          rw [Rp.key hv ek]
          show Sim Z ns lk m M _ _ (.ok ((valK kvs k).getD .non) M)
          rw [lkp_valK, e3]
          have q := lkp_ok (ks := ks) (k := k) r
          cases hq : lkp ks us k with
          | none =>
            rw [hq] at q
            rw [show lkp ks (kvs.map (·.2)) k = none from q]
            exact val_ok (x := .non) (d := .non) R rfl
          | some w =>
            rw [hq] at q
            obtain ⟨dw, q1, q2⟩ := q
            rw [q1]
            exact val_ok R q2
        · exact True.intro
      · exact True.intro
    · exact True.intro
/-! ### o[i] = v -/
abbrev RUn : U → Unit → List Nat → Store → Cs → Prop := fun _ _ _ _ _ => True
theorem putC_okU (R : Rel2 Z ns σ M) {k n : Nat} {u u' r : U} {o o' : Ob} {fl : Bool} (e : σ[k]? = some u) (en : ns[k]? = some n) (eo : M[n]? = some o) (h : Rc (hole M Z) ns u' o') (hf : fl = true → ∀ a ∈ locsL 0 o'.its, a ∈ locsL 0 o.its) :
    Sim Z ns lk m M RUn (putC lk m σ k u' r fl) (.ok () (M.set n o')) := by
  unfold putC
  by_cases hk : k ∈ lk
  · rw [if_pos hk]
    exact True.intro
  · rw [if_neg hk]
    exact ⟨_, _, [], rfl, put_ok (m := m) R e en eo hk h hf, True.intro⟩
theorem any_keys {κ : Type} [DecidableEq κ] {kvs : List (κ × D)} {k : κ} : (kvs.any fun kv => decide (kv.1 = k)) = decide (k ∈ kvs.map (·.1)) := by
  induction kvs with
  | nil => rfl
  | cons q r ih =>
    rw [List.any_cons, ih, List.map_cons]
    by_cases h : q.1 = k
    · simp [h]
    · have h' : ¬ k = q.1 := fun z => h z.symm
      simp [h, h']
theorem putKD_ok {κ : Type} [DecidableEq κ] {g : Nat → Option Ob} {kvs : List (κ × D)} {us : List U} {k : κ} {v : U} {dv : D} (hv : Rp g ns v dv) (h : Rps g ns us (kvs.map (·.2))) :
    (putKD kvs k dv).map (·.1) = (putK (kvs.map (·.1)) us k v).1 ∧ Rps g ns (putK (kvs.map (·.1)) us k v).2 ((putKD kvs k dv).map (·.2)) ∧ ∀ a, a ∈ (putKD kvs k dv).map (·.2) → a = dv ∨ a ∈ kvs.map (·.2) := by
  unfold putKD putK
  rw [any_keys]
  by_cases hk : k ∈ kvs.map (·.1)
  · rw [if_pos (by simpa using hk), if_pos hk]
    refine ⟨?_, ?_, ?_⟩
    · rw [List.map_map]
      refine List.map_congr_left fun q _ => ?_
      show (if q.1 = k then (q.1, dv) else q).1 = q.1
      split <;> rfl
    · clear hk
      induction kvs generalizing us with
      | nil => cases us <;> first | exact rfl | (obtain ⟨_, _, e, _⟩ := h; cases e)
      | cons q r ih =>
        cases us with
        | nil => cases h
        | cons u us =>
          obtain ⟨d1, r1, e, h1, h2⟩ := h
          rw [List.map_cons] at e
          obtain ⟨rfl, rfl⟩ := List.cons.inj e
          refine ⟨_, _, rfl, ?_, ih h2⟩
          show Rp g ns (if q.1 = k then v else u) (if q.1 = k then (q.1, dv) else q).2
          split
          · exact hv
          · exact h1
    · intro a ha
      rw [List.map_map] at ha
      obtain ⟨q, hq, rfl⟩ := List.mem_map.mp ha
      show (if q.1 = k then (q.1, dv) else q).2 = dv ∨ (if q.1 = k then (q.1, dv) else q).2 ∈ kvs.map (·.2)
      split
      · exact .inl rfl
      · exact .inr (List.mem_map.mpr ⟨q, hq, rfl⟩)
  · rw [if_neg (by simpa using hk), if_neg hk]
    refine ⟨by rw [List.map_append]; rfl, by rw [List.map_append]; exact Rps.app (Rps.one hv) h, fun a ha => ?_⟩
    rw [List.map_append, List.mem_append] at ha
    rcases ha with ha | ha
    · exact .inr ha
    · exact .inl (by simpa using ha)
theorem locs_put {v : U} {dv : D} {xs ys : List D} {g : Nat → Option Ob} (hv : Rp g ns v dv) (z : v.fl = true) (h : ∀ a, a ∈ xs → a = dv ∨ a ∈ ys) : ∀ a ∈ locsL 0 xs, a ∈ locsL 0 ys := fun a ha => by
  obtain ⟨d, hd, h2⟩ := locsL_mem.mp ha
  rcases h d hd with rfl | h3
  · rw [(Rp.flat (g' := fun _ => none) (ns' := []) v d z hv).2.2] at h2
    cases h2
  · exact locsL_mem.mpr ⟨d, h3, h2⟩
theorem setU_ok (R : Rel2 Z ns σ M) {o i v : U} {dO di dv : D} (ho : Rp (hole M Z) ns o dO) (hi : Rp (hole M Z) ns i di) (hv : Rp (hole M Z) ns v dv) : Sim Z ns lk m M RUn (setU lk m σ o i v) (setE M dO di dv) := by
  unfold setU
  split
  · rename_i k
    split
    · rename_i xs e1
      obtain ⟨n, es, rfl, e2, e3, e4, r⟩ := cel_lst R ho e1
      split
      · rename_i a
        cases hi
        split
        · rename_i j ej
          show Sim Z ns lk m M _ _ (setE M (.loc n) (.int a) dv)
          unfold setE
          simp only [e3]
          show Sim Z ns lk m M _ _ (match ixN es.length a with | some j => .ok () (M.set n (.lst (es.set j dv))) | none => .bad)
          rw [← Rps.len r, ej]
          exact putC_okU R e1 e2 e3 ⟨_, rfl, Rps.set hv j r⟩ fun z => locs_put hv z fun a ha => (List.mem_or_eq_of_mem_set ha).symm
        · exact True.intro
      · exact True.intro
    · rename_i ks us e1
      obtain ⟨n, o', rfl, e2, e3, kvs, rfl, ek, r⟩ := cel_at R ho e1
      split
      · rename_i x ex
        split
        · rename_i l
          unfold setE
          simp only [e3]
          rw [Rp.key hi ex]
          subst ek
          rw [List.length_map] at l
          show Sim Z ns lk m M _ _ (if kvs.length < sizeLine then _ else _)
          rw [if_pos l]
          obtain ⟨p1, p2, p3⟩ := putKD_ok (k := x) hv r
          exact putC_okU R e1 e2 e3 ⟨_, rfl, p1, p2⟩ fun z => locs_put hv z p3
        · exact True.intro
      · exact True.intro
    · rename_i ks us e1
      obtain ⟨n, o', rfl, e2, e3, kvs, rfl, ek, r⟩ := cel_at R ho e1
      split
      · rename_i vs
        split
        · rename_i x ex
          split
          · rename_i l
            obtain ⟨es, rfl, re⟩ := hi
            unfold setE
            simp only [e3]
            rw [keys_ok re ex]
            subst ek
            rw [List.length_map] at l
            show Sim Z ns lk m M _ _ (if kvs.length < sizeLine then _ else _)
            rw [if_pos l]
            obtain ⟨p1, p2, p3⟩ := putKD_ok (k := x) hv r
            exact putC_okU R e1 e2 e3 ⟨_, rfl, p1, p2⟩ fun z => locs_put hv z p3
          · exact True.intro
        · exact True.intro
      · exact True.intro
    · exact True.intro
  · exact True.intro
theorem putF_ok {g : Nat → Option Ob} {f : Str} {v : U} {dv : D} (hv : Rp g ns v dv) : ∀ {kvs : List (Str × D)} {us : List U}, Rps g ns us (kvs.map (·.2)) →
    (putD f dv kvs).map (·.1) = (putF (kvs.map (·.1)) us f v).1 ∧ Rps g ns (putF (kvs.map (·.1)) us f v).2 ((putD f dv kvs).map (·.2)) ∧ ∀ a, a ∈ (putD f dv kvs).map (·.2) → a = dv ∨ a ∈ kvs.map (·.2)
  | [], us, h => ⟨rfl, Rps.one hv, fun a ha => .inl (by simpa [putD] using ha)⟩
  | (q, w) :: r, us, h => by
    cases us with
    | nil => cases h
    | cons u us =>
      obtain ⟨d1, r1, e, h1, h2⟩ := h
      rw [List.map_cons] at e
      obtain ⟨rfl, rfl⟩ := List.cons.inj e
      by_cases hq : q = f
      · subst hq
        simp only [putD, putF, List.map_cons, if_true, List.tail_cons]
        exact ⟨trivial, ⟨_, _, rfl, hv, h2⟩, fun a ha => by
          rcases List.mem_cons.mp ha with rfl | ha
          · exact .inl rfl
          · exact .inr (List.mem_cons_of_mem _ ha)⟩
      · obtain ⟨i1, i2, i3⟩ := putF_ok hv h2
        simp only [putD, putF, List.map_cons, if_neg hq]
        refine ⟨by rw [i1], ⟨_, _, rfl, h1, i2⟩, fun a ha => ?_⟩
        rcases List.mem_cons.mp ha with rfl | ha
        · exact .inr List.mem_cons_self
        · rcases i3 a ha with h | h
          · exact .inl h
          · exact .inr (List.mem_cons_of_mem _ h)
/-! ### what is walked -/
def RSrc (Z ns : List Nat) (u : USrc) (s : Src) (x : List Nat) (M : Store) (σ : Cs) : Prop := match s with
  | .its ds => u.lk = none ∧ Rps (hole M (Z ++ x)) (ns ++ x) u.xs ds
  | .lst n ds => M[n]? = some (.lst ds) ∧ Rps (hole M (Z ++ x)) (ns ++ x) u.xs ds ∧ (u.lk = none → n ∉ Z ++ x) ∧ ∀ k, u.lk = some k → (ns ++ x)[k]? = some n
theorem srcU_ok (R : Rel2 Z ns σ M) (hx : Rp (hole M Z) ns x d) : Sim Z ns lk m M (RSrc Z ns) (srcU σ x) (srcOf M d) := by
  have nil : ∀ {u : USrc} {s : Src}, (match s with
    | .its ds => u.lk = none ∧ Rps (hole M Z) ns u.xs ds
    | .lst n ds => M[n]? = some (.lst ds) ∧ Rps (hole M Z) ns u.xs ds ∧ (u.lk = none → n ∉ Z) ∧ ∀ k, u.lk = some k → ns[k]? = some n) → RSrc Z ns u s [] M σ := fun {u s} h => by
    unfold RSrc
    rw [List.append_nil, List.append_nil]
    exact h
  cases x with
  | lst us =>
    obtain ⟨n, ds, rfl, e1, r⟩ := hx
    obtain ⟨e0, e1⟩ := hole_some.mp e1
    show Sim Z ns lk m M _ _ (match lstAt M n with | some xs => Out.ok (Src.lst n xs) M | none => .bad)
    rw [lstAt_eq.mpr e1]
    exact Sim.ok R (nil ⟨e1, r, fun _ => e0, fun k z => (by cases z)⟩)
  | tup us =>
    obtain ⟨ds, rfl, r⟩ := hx
    exact Sim.ok R (nil ⟨rfl, r⟩)
  | rol us =>
    cases hx
    exact Sim.ok R (nil ⟨rfl, Rps.map_int us⟩)
  | str z =>
    cases hx
    refine Sim.ok R (nil ⟨rfl, ?_⟩)
    show Rps _ _ (z.cps.toList.map fun c => U.str ⟨#[c]⟩) (z.cps.toList.map fun c => D.str ⟨#[c]⟩)
    generalize z.cps.toList = l
    induction l with
    | nil => exact rfl
    | cons c l ih => exact ⟨_, _, rfl, rfl, ih⟩
  | cel k =>
    unfold srcU
    simp only
    split
    · rename_i xs e1
      obtain ⟨n, ds, rfl, e2, e3, e4, r⟩ := cel_lst R hx e1
      show Sim Z ns lk m M _ _ (match lstAt M n with | some xs => Out.ok (Src.lst n xs) M | none => .bad)
      rw [e4]
      exact Sim.ok R (nil ⟨e3, r, fun z => (by cases z), fun j z => (by cases z; exact e2)⟩)
    · exact True.intro
  | _ => exact True.intro
theorem rngU_ok (R : Rel2 Z ns σ M) (h : Rps (hole M Z) ns us ds) : Sim Z ns lk m M (RSrc Z ns) (rngU σ us) (rngOf M ds) := by
  have rr : ∀ (n : Nat) (f : Nat → Int), Rps (hole M (Z ++ [])) (ns ++ []) ((List.range n).map fun i => U.int (f i)) ((List.range n).map fun i => D.int (f i)) := fun n f => by
    generalize List.range n = l
    induction l with
    | nil => exact rfl
    | cons c l ih => exact ⟨_, _, rfl, rfl, ih⟩
  unfold rngU
  split
  · obtain ⟨dv, _, rfl, hv, e⟩ := h
    cases e; cases hv
    split
    · rename_i l
      show Sim Z ns lk m M _ _ (if _ then _ else _)
      rw [if_pos l]
      exact Sim.ok R ⟨rfl, rr _ _⟩
    · exact True.intro
  · obtain ⟨dv, _, rfl, hv, d2, _, rfl, hv2, e⟩ := h
    cases e; cases hv; cases hv2
    split
    · rename_i l
      show Sim Z ns lk m M _ _ (if _ then _ else _)
      rw [if_pos l]
      exact Sim.ok R ⟨rfl, rr _ _⟩
    · exact True.intro
  · exact True.intro
theorem stands_ok {u : USrc} {s : Src} {x : List Nat} (R : Rel2 (Z ++ x) (ns ++ x) σ M) (h : RSrc Z ns u s x M σ) : s.items.length = u.xs.length ∧ ∀ {M' : Store} {y : List Nat} {σ' : Cs} {z : Bool}, St (Z ++ x) (ns ++ x) (u.lock lk) m M y σ' z M' → s.stands M' = true := by
  cases s with
  | its ds => exact ⟨(Rps.len h.2).symm, fun _ => stands_its _ _⟩
  | lst n ds =>
    obtain ⟨h1, h2, h3, h4⟩ := h
    refine ⟨(Rps.len h2).symm, fun {M' y σ' z} t => stands_lst ?_⟩
    rw [← h1]
    refine t.ext n (List.getElem?_eq_some_iff.mp h1).1 fun ⟨k, e, hk⟩ => ?_
    cases q : u.lk with
    | none => exact h3 q (R.sub n (List.mem_of_getElem? e))
    | some j =>
      obtain ⟨a1, a2⟩ := List.getElem?_eq_some_iff.mp (h4 j q)
      obtain ⟨b1, b2⟩ := List.getElem?_eq_some_iff.mp e
      have : j = k := (List.getElem_inj R.nd).mp (a2.trans b2.symm)
      subst this
      unfold USrc.lock at hk
      rw [q] at hk
      exact hk List.mem_cons_self
end
end Dv
end

section
set_option Elab.async false
set_option autoImplicit false
set_option linter.all false
set_option maxRecDepth 100000
set_option maxHeartbeats 2000000
/-! PvG: a new object becomes a cell; fields; what is let go of. -/
namespace Dv
open PySem L2
section
variable {g : Nat → Option Ob} {ns : List Nat}
mutual
theorem Rp.uniq (hg : ∀ k n : Nat, ns[k]? = some n → g n = none) (nd : ns.Nodup) : ∀ (u v : U) (d : D), Rp g ns u d → Rp g ns v d → u = v
  | .non, v, d, h, h' => by cases h; cases v <;> simp [Rp] at h' <;> rfl
  | .bl b, v, d, h, h' => by cases h; cases v <;> simp [Rp] at h' <;> (rw [h'])
  | .int i, v, d, h, h' => by cases h; cases v <;> simp [Rp] at h' <;> (rw [h'])
  | .str s, v, d, h, h' => by cases h; cases v <;> simp [Rp] at h' <;> (rw [h'])
  | .rol xs, v, d, h, h' => by cases h; cases v <;> simp [Rp] at h' <;> (rw [h'])
  | .ktp xs, v, d, h, h' => by cases h; cases v <;> simp [Rp] at h' <;> (rw [h'])
  | .tup us, v, d, h, h' => by
    obtain ⟨ds, rfl, r⟩ := h
    cases v <;> simp only [Rp] at h' <;> first | (cases h'; done) | (obtain ⟨_, e, _⟩ := h'; cases e; done) | (obtain ⟨_, _, e, _⟩ := h'; cases e; done) | skip
    obtain ⟨es, e, r'⟩ := h'
    cases e
    rw [Rps.uniq hg nd us _ ds r r']
  | .lst us, v, d, h, h' => by
    obtain ⟨n, ds, rfl, e1, r⟩ := h
    cases v <;> simp only [Rp] at h' <;> first | (cases h'; done) | (obtain ⟨_, e, _⟩ := h'; cases e; done) | skip
    · obtain ⟨n', es, e, e2, r'⟩ := h'
      cases e
      rw [e1] at e2
      cases e2
      rw [Rps.uniq hg nd us _ ds r r']
    · obtain ⟨n', es, e, e2, r'⟩ := h'
      cases e
      rw [e1] at e2
      cases e2
    · obtain ⟨n', es, e, e2, r'⟩ := h'
      cases e
      rw [e1] at e2
      cases e2
    · obtain ⟨n', es, e, e2, r'⟩ := h'
      cases e
      rw [e1] at e2
      cases e2
    · obtain ⟨n', e, e2⟩ := h'
      cases e
      rw [hg _ _ e2] at e1
      cases e1
  | .dct ks us, v, d, h, h' => by
    obtain ⟨n, ds, rfl, e1, ek, r⟩ := h
    cases v <;> simp only [Rp] at h' <;> first | (cases h'; done) | (obtain ⟨_, e, _⟩ := h'; cases e; done) | skip
    · obtain ⟨n', es, e, e2, r'⟩ := h'
      cases e
      rw [e1] at e2
      cases e2
    · obtain ⟨n', es, e, e2, ek', r'⟩ := h'
      cases e
      rw [e1] at e2
      cases e2
      rw [Rps.uniq hg nd us _ _ r r', ← ek, ← ek']
    · obtain ⟨n', es, e, e2, r'⟩ := h'
      cases e
      rw [e1] at e2
      cases e2
    · obtain ⟨n', es, e, e2, r'⟩ := h'
      cases e
      rw [e1] at e2
      cases e2
    · obtain ⟨n', e, e2⟩ := h'
      cases e
      rw [hg _ _ e2] at e1
      cases e1
  | .dtt ks us, v, d, h, h' => by
    obtain ⟨n, ds, rfl, e1, ek, r⟩ := h
    cases v <;> simp only [Rp] at h' <;> first | (cases h'; done) | (obtain ⟨_, e, _⟩ := h'; cases e; done) | skip
    · obtain ⟨n', es, e, e2, r'⟩ := h'
      cases e
      rw [e1] at e2
      cases e2
    · obtain ⟨n', es, e, e2, r'⟩ := h'
      cases e
      rw [e1] at e2
      cases e2
    · obtain ⟨n', es, e, e2, ek', r'⟩ := h'
      cases e
      rw [e1] at e2
      cases e2
      rw [Rps.uniq hg nd us _ _ r r', ← ek, ← ek']
    · obtain ⟨n', es, e, e2, r'⟩ := h'
      cases e
      rw [e1] at e2
      cases e2
    · obtain ⟨n', e, e2⟩ := h'
      cases e
      rw [hg _ _ e2] at e1
      cases e1
  | .ins c ks us, v, d, h, h' => by
    obtain ⟨n, ds, rfl, e1, ek, r⟩ := h
    cases v <;> simp only [Rp] at h' <;> first | (cases h'; done) | (obtain ⟨_, e, _⟩ := h'; cases e; done) | skip
    · obtain ⟨n', es, e, e2, r'⟩ := h'
      cases e
      rw [e1] at e2
      cases e2
    · obtain ⟨n', es, e, e2, r'⟩ := h'
      cases e
      rw [e1] at e2
      cases e2
    · obtain ⟨n', es, e, e2, r'⟩ := h'
      cases e
      rw [e1] at e2
      cases e2
    · obtain ⟨n', es, e, e2, ek', r'⟩ := h'
      cases e
      rw [e1] at e2
      cases e2
      rw [Rps.uniq hg nd us _ _ r r', ← ek, ← ek']
    · obtain ⟨n', e, e2⟩ := h'
      cases e
      rw [hg _ _ e2] at e1
      cases e1
  | .cel k, v, d, h, h' => by
    obtain ⟨n, rfl, e1⟩ := h
    cases v <;> simp only [Rp] at h' <;> first | (cases h'; done) | (obtain ⟨_, e, _⟩ := h'; cases e; done) | (obtain ⟨_, _, e, e2, _⟩ := h'; cases e; rw [hg _ _ e1] at e2; cases e2; done) | skip
    obtain ⟨n', e, e2⟩ := h'
    cases e
    obtain ⟨a1, a2⟩ := List.getElem?_eq_some_iff.mp e1
    obtain ⟨b1, b2⟩ := List.getElem?_eq_some_iff.mp e2
    rw [(List.getElem_inj nd).mp (a2.trans b2.symm)]
theorem Rps.uniq (hg : ∀ k n : Nat, ns[k]? = some n → g n = none) (nd : ns.Nodup) : ∀ (us vs : List U) (ds : List D), Rps g ns us ds → Rps g ns vs ds → us = vs
  | [], vs, ds, h, h' => by
    cases h
    cases vs with
    | nil => rfl
    | cons v vs => obtain ⟨_, _, e, _⟩ := h'; cases e
  | u :: us, vs, ds, h, h' => by
    obtain ⟨d, r, rfl, h1, h2⟩ := h
    cases vs with
    | nil => cases h'
    | cons v vs =>
      obtain ⟨d', r', e, h3, h4⟩ := h'
      cases e
      rw [Rp.uniq hg nd u v d h1 h3, Rps.uniq hg nd us vs r h2 h4]
end
mutual
/-- what is smaller than the object at j does not hold it -/
theorem Rp.avoid {g' : Nat → Option Ob} (hg : ∀ k n : Nat, ns[k]? = some n → g n = none) (nd : ns.Nodup) {u0 : U} {j : Nat} (h0 : Rp g ns u0 (.loc j)) (hj : ∀ n o, n ≠ j → g n = some o → g' n = some o) : ∀ (u : U) (d : D), sizeOf u < sizeOf u0 → Rp g ns u d → Rp g' ns u d
  | .non, d, _, h => h
  | .bl b, d, _, h => h
  | .int i, d, _, h => h
  | .str s, d, _, h => h
  | .rol xs, d, _, h => h
  | .ktp xs, d, _, h => h
  | .tup us, d, l, h => by
    obtain ⟨ds, rfl, r⟩ := h
    exact ⟨ds, rfl, Rps.avoid hg nd h0 hj us ds (by simp only [U.tup.sizeOf_spec] at l; omega) r⟩
  | .lst us, d, l, h => by
    by_cases e : d = .loc j
    · have := Rp.uniq hg nd _ _ _ (e ▸ h) h0
      rw [this] at l
      omega
    · obtain ⟨n, ds, rfl, e1, r⟩ := h
      exact ⟨n, ds, rfl, hj n _ (fun z => e (by rw [z])) e1, Rps.avoid hg nd h0 hj us ds (by simp only [U.lst.sizeOf_spec] at l; omega) r⟩
  | .dct ks us, d, l, h => by
    by_cases e : d = .loc j
    · have := Rp.uniq hg nd _ _ _ (e ▸ h) h0
      rw [this] at l
      omega
    · obtain ⟨n, ds, rfl, e1, e2, r⟩ := h
      exact ⟨n, ds, rfl, hj n _ (fun z => e (by rw [z])) e1, e2, Rps.avoid hg nd h0 hj us _ (by simp only [U.dct.sizeOf_spec] at l; omega) r⟩
  | .dtt ks us, d, l, h => by
    by_cases e : d = .loc j
    · have := Rp.uniq hg nd _ _ _ (e ▸ h) h0
      rw [this] at l
      omega
    · obtain ⟨n, ds, rfl, e1, e2, r⟩ := h
      exact ⟨n, ds, rfl, hj n _ (fun z => e (by rw [z])) e1, e2, Rps.avoid hg nd h0 hj us _ (by simp only [U.dtt.sizeOf_spec] at l; omega) r⟩
  | .ins c ks us, d, l, h => by
    by_cases e : d = .loc j
    · have := Rp.uniq hg nd _ _ _ (e ▸ h) h0
      rw [this] at l
      omega
    · obtain ⟨n, ds, rfl, e1, e2, r⟩ := h
      exact ⟨n, ds, rfl, hj n _ (fun z => e (by rw [z])) e1, e2, Rps.avoid hg nd h0 hj us _ (by simp only [U.ins.sizeOf_spec] at l; omega) r⟩
  | .cel k, d, _, h => h
theorem Rps.avoid {g' : Nat → Option Ob} (hg : ∀ k n : Nat, ns[k]? = some n → g n = none) (nd : ns.Nodup) {u0 : U} {j : Nat} (h0 : Rp g ns u0 (.loc j)) (hj : ∀ n o, n ≠ j → g n = some o → g' n = some o) : ∀ (us : List U) (ds : List D), sizeOf us < sizeOf u0 → Rps g ns us ds → Rps g' ns us ds
  | [], ds, _, h => h
  | u :: us, ds, l, h => by
    obtain ⟨d, r, rfl, h1, h2⟩ := h
    simp only [List.cons.sizeOf_spec] at l
    exact ⟨d, r, rfl, Rp.avoid hg nd h0 hj u d (by omega) h1, Rps.avoid hg nd h0 hj us r (by omega) h2⟩
end
theorem its_size (u : U) : u.box = true → sizeOf u.its < sizeOf u := fun h => by
  cases u <;> first | (cases h; done) | (simp only [U.its, U.lst.sizeOf_spec, U.dct.sizeOf_spec, U.dtt.sizeOf_spec, U.ins.sizeOf_spec]; omega)
theorem Rp.box {u : U} {d : D} (h : Rp g ns u d) (hb : u.box = true) : ∃ n o, d = .loc n ∧ g n = some o ∧ Rc g ns u o := by
  cases u <;> first | (cases hb; done) | skip
  · obtain ⟨n, ds, rfl, e, r⟩ := h; exact ⟨n, _, rfl, e, ds, rfl, r⟩
  · obtain ⟨n, ds, rfl, e, e2, r⟩ := h; exact ⟨n, _, rfl, e, ds, rfl, e2, r⟩
  · obtain ⟨n, ds, rfl, e, e2, r⟩ := h; exact ⟨n, _, rfl, e, ds, rfl, e2, r⟩
  · obtain ⟨n, ds, rfl, e, e2, r⟩ := h; exact ⟨n, _, rfl, e, ds, rfl, e2, r⟩
end
section
variable {Z ns lk x : List Nat} {m : Nat} {M M1 : Store} {σ σ1 σ' : Cs} {z : Bool} {v v' : U} {d : D}
theorem Rel2.none (R : Rel2 Z ns σ M) (k n : Nat) (e : ns[k]? = some n) : hole M Z n = .none := by
  unfold hole
  rw [if_pos (R.sub n (List.mem_of_getElem? e))]
/-- a new object becomes a cell -/
theorem cell_ok (R : Rel2 Z ns σ M) (s : St Z ns lk m M x σ1 z M1) (hv : Rp (hole M1 (Z ++ x)) (ns ++ x) v d) (hb : v.box = true) (hf : FreshOk Z ns M d x M1 σ1) :
    ∃ j, St Z ns lk m M (x ++ [j]) (σ1 ++ [v]) z M1 ∧ Rp (hole M1 (Z ++ (x ++ [j]))) (ns ++ (x ++ [j])) (.cel σ1.length) d := by
  obtain ⟨j, M', rfl, l0, l1, l2, l3, l4, R'⟩ := hf
  obtain ⟨n, o, e, eo, rc⟩ := Rp.box hv hb
  cases e
  obtain ⟨ez, eo⟩ := hole_some.mp eo
  have R1 := s.rel
  have jl := (List.getElem?_eq_some_iff.mp eo).1
  have hge : ∀ n o, n ≠ j → hole M1 (Z ++ x) n = some o → hole M1 (Z ++ (x ++ [j])) n = some o := fun n o hn h => by
    obtain ⟨a, b⟩ := hole_some.mp h
    refine hole_some.mpr ⟨fun hm => ?_, b⟩
    rw [← List.append_assoc, List.mem_append] at hm
    rcases hm with hm | hm
    · exact a hm
    · exact hn (by simpa using hm)
  have hold : ∀ n o, hole M' (Z ++ x) n = some o → hole M1 (Z ++ (x ++ [j])) n = some o := fun n o h => by
    obtain ⟨a, b⟩ := hole_some.mp h
    have lt := (List.getElem?_eq_some_iff.mp b).1
    exact hge n o (by omega) (hole_some.mpr ⟨a, (l3 n lt).trans b⟩)
  have hns : ∀ k n : Nat, (ns ++ x)[k]? = some n → (ns ++ (x ++ [j]))[k]? = some n := fun k n h => by rw [← List.append_assoc]; exact getApp h
  have jn : (ns ++ (x ++ [j]))[σ1.length]? = some j := by
    rw [← List.append_assoc, List.getElem?_append_right (by rw [R1.len]; exact Nat.le_refl _), R1.len, Nat.sub_self]
    rfl
  refine ⟨j, ⟨s.le, s.ext, fun n hn => ?_, ⟨?_, ?_, fun n hn => ?_, fun n hn => ?_, l4, fun k u e => ?_⟩, s.keep⟩, ⟨j, rfl, jn⟩⟩
  · rcases List.mem_append.mp hn with hn | hn
    · exact s.new n hn
    · have : n = j := by simpa using hn
      omega
  · have := R1.len
    simp only [List.length_append, List.length_cons, List.length_nil] at this ⊢
    omega
  · rw [← List.append_assoc, List.nodup_append]
    refine ⟨R1.nd, by simp, fun a ha b hb => ?_⟩
    have : b = j := by simpa using hb
    subst this
    rintro rfl
    exact ez (R1.sub a ha)
  · rw [← List.append_assoc, List.mem_append] at hn ⊢
    rcases hn with hn | hn
    · exact .inl (R1.sub n hn)
    · exact .inr hn
  · rw [← List.append_assoc, List.mem_append] at hn
    rcases hn with hn | hn
    · exact R1.lt n hn
    · have : n = j := by simpa using hn
      omega
  · by_cases hk : k < σ1.length
    · rw [List.getElem?_append_left hk] at e
      obtain ⟨n', o', e1, e2, r⟩ := R'.ob k u e
      have lt := (List.getElem?_eq_some_iff.mp e2).1
      exact ⟨n', o', hns k n' e1, (l3 n' lt).trans e2, r.with (Rps.mono hold hns _ _ r.its)⟩
    · rw [List.getElem?_append_right (by omega)] at e
      cases hk' : k - σ1.length with
      | zero =>
        rw [hk'] at e
        cases e
        have ek : k = σ1.length := by omega
        subst ek
        exact ⟨j, o, jn, eo, rc.with (Rps.mono (fun _ _ h => h) hns _ _ (Rps.avoid R1.none R1.nd hv hge _ _ (its_size v hb) rc.its))⟩
      | succ i => rw [hk'] at e; simp at e
theorem thaw_ok {own fr : Bool} (R : Rel2 Z ns σ M) (s : St Z ns lk m M x σ1 z M1) (hv : Rp (hole M1 (Z ++ x)) (ns ++ x) v d) (hf : fr = true → v.box = true → FreshOk Z ns M d x M1 σ1) (e : thaw own fr v σ1 = some (v', σ')) :
    ∃ y, St Z ns lk m M (x ++ y) σ' z M1 ∧ Rp (hole M1 (Z ++ (x ++ y))) (ns ++ (x ++ y)) v' d := by
  have same : ∃ y, St Z ns lk m M (x ++ y) σ1 z M1 ∧ Rp (hole M1 (Z ++ (x ++ y))) (ns ++ (x ++ y)) v d := ⟨[], by rw [List.append_nil]; exact s, by rw [List.append_nil]; exact hv⟩
  cases own with
  | false => cases e; exact same
  | true =>
    cases v with
    | lst us =>
      have e : (if fr = true then some (U.cel σ1.length, σ1 ++ [U.lst us]) else none) = some (v', σ') := e
      by_cases hr : fr = true
      · rw [if_pos hr] at e
        cases e
        obtain ⟨j, h1, h2⟩ := cell_ok R s hv rfl (hf hr rfl)
        exact ⟨[j], h1, h2⟩
      · rw [if_neg hr] at e
        cases e
    | dct ks us =>
      have e : (if fr = true then some (U.cel σ1.length, σ1 ++ [U.dct ks us]) else none) = some (v', σ') := e
      by_cases hr : fr = true
      · rw [if_pos hr] at e
        cases e
        obtain ⟨j, h1, h2⟩ := cell_ok R s hv rfl (hf hr rfl)
        exact ⟨[j], h1, h2⟩
      · rw [if_neg hr] at e
        cases e
    | dtt ks us =>
      have e : (if fr = true then some (U.cel σ1.length, σ1 ++ [U.dtt ks us]) else none) = some (v', σ') := e
      by_cases hr : fr = true
      · rw [if_pos hr] at e
        cases e
        obtain ⟨j, h1, h2⟩ := cell_ok R s hv rfl (hf hr rfl)
        exact ⟨[j], h1, h2⟩
      · rw [if_neg hr] at e
        cases e
    | _ => cases e; exact same
end
/-! ### fields -/
section
variable {Z ns lk : List Nat} {m : Nat} {M : Store} {σ : Cs} {x : U} {d : D} {G : Gl}
theorem fldU_ok (R : Rel2 Z ns σ M) (hx : Rp (hole M Z) ns x d) {f : Str} : Sim Z ns lk m M (RV2 Z ns) (fldU G σ x f) (fldE G M d f) := by
  unfold fldU
  split
  · rename_i c fs us e1
    obtain ⟨n, kvs, rfl, e2, e3, r⟩ := dref_ins R hx e1
    split
    · rename_i hf
      show Sim Z ns lk m M _ _ (match M[n]? with | some (.ins c fs) => if G.fok c f = true then ofO (fs.lookup f) M else .bad | _ => .bad)
      rw [e2]
      show Sim Z ns lk m M _ _ (if G.fok c f = true then ofO (kvs.lookup f) M else .bad)
      rw [if_pos hf, lookup_lkp, e3]
      refine Sim.ofO R fun v hv => ?_
      have q := lkp_ok (ks := fs) (k := f) r
      rw [hv] at q
      obtain ⟨dv, q1, q2⟩ := q
      exact ⟨dv, q1, by show Rp (hole M (Z ++ [])) (ns ++ []) v dv; rw [List.append_nil, List.append_nil]; exact q2⟩
    · exact True.intro
  · exact True.intro
theorem mthU_ok (R : Rel2 Z ns σ M) (hx : Rp (hole M Z) ns x d) {i g : Nat} (e : mthU G σ x i = some g) : mthE G M d i = some g := by
  unfold mthU at e
  split at e
  · rename_i c fs us e1
    obtain ⟨n, kvs, rfl, e2, e3, r⟩ := dref_ins R hx e1
    unfold mthE
    simp only [e2]
    split at e
    · rename_i hl
      have q := lkp_ok (ks := fs) (k := G.mn i) r
      cases hq : lkp fs us (G.mn i) with
      | some w => rw [hq] at hl; cases hl
      | none =>
        rw [hq] at q
        rw [if_pos (by rw [lookup_lkp, e3]; rw [show lkp fs (kvs.map (·.2)) (G.mn i) = none from q]; rfl)]
        exact e
    · cases e
  · cases e
end
end Dv
end

section
set_option Elab.async false
set_option autoImplicit false
set_option linter.all false
set_option maxRecDepth 100000
set_option maxHeartbeats 2000000
/-! PvH: calls by values. -/
namespace Dv
open PySem L2
theorem PO.or_false {α : Type} (p : PO α) : p.or false = p := by cases p <;> simp [PO.or]
section
variable {Z ns lk x : List Nat} {m : Nat} {M M1 : Store} {σ σ1 : Cs}
theorem frzL_ok {f : U → Option U} {g g' : Nat → Option Ob} {ns' : List Nat} (hf : ∀ u w d, f u = some w → Rp g ns u d → Rp g' ns' w d) : ∀ {us ws : List U} {ds : List D}, frzL f us = some ws → Rps g ns us ds → Rps g' ns' ws ds
  | [], ws, ds, e, h => by cases e; cases h; exact rfl
  | u :: us, ws, ds, e, h => by
    obtain ⟨d, r, rfl, h1, h2⟩ := h
    have e : (match f u, frzL f us with | some x, some xs => some (x :: xs) | _, _ => none) = some ws := e
    split at e
    · rename_i a b e1 e2
      cases e
      exact ⟨d, r, rfl, hf u a d e1 h1, frzL_ok hf e2 h2⟩
    · cases e
/-- cells are written out -/
theorem frz_ok {Z' ns' : List Nat} {k0 : Nat} (R : Rel2 Z ns σ M) (h1 : ∀ n ∈ Z', n ∈ Z) (h2 : ∀ k n : Nat, ns[k]? = some n → k0 ≤ k → n ∉ Z') (h3 : ∀ k n : Nat, k < k0 → ns[k]? = some n → ns'[k]? = some n) : ∀ n : Nat,
    (∀ u w d, frz k0 σ n u = some w → Rp (hole M Z) ns u d → Rp (hole M Z') ns' w d) ∧ (∀ u w o, frz k0 σ n u = some w → Rc (hole M Z) ns u o → Rc (hole M Z') ns' w o) := by
  have hg : ∀ n o, hole M Z n = some o → hole M Z' n = some o := fun n o e => by
    obtain ⟨a, b⟩ := hole_some.mp e
    exact hole_some.mpr ⟨fun z => a (h1 n z), b⟩
  have L1 : ∀ u d, u.lc k0 = true → Rp (hole M Z) ns u d → Rp (hole M Z') ns' u d := fun u d l h => Rp.low h3 u d l (Rp.mono hg (fun _ _ e => e) u d h)
  have L2' : ∀ us ds, lcL k0 us = true → Rps (hole M Z) ns us ds → Rps (hole M Z') ns' us ds := fun u d l h => Rps.low h3 u d l (Rps.mono hg (fun _ _ e => e) u d h)
  have lits : ∀ u : U, u.lc k0 = true → lcL k0 u.its = true := fun u h => by cases u <;> first | rfl | exact h
  intro n
  induction n with
  | zero =>
    refine ⟨fun u w d e h => ?_, fun u w o e h => ?_⟩
    · have e : (if u.lc k0 = true then some u else none) = some w := e
      by_cases l : u.lc k0 = true
      · rw [if_pos l] at e
        cases e
        exact L1 _ _ l h
      · rw [if_neg l] at e
        cases e
    · have e : (if u.lc k0 = true then some u else none) = some w := e
      by_cases l : u.lc k0 = true
      · rw [if_pos l] at e
        cases e
        exact h.with (L2' _ _ (lits _ l) h.its)
      · rw [if_neg l] at e
        cases e
  | succ n ih =>
    obtain ⟨i1, i2⟩ := ih
    refine ⟨fun u w d e h => ?_, fun u w o e h => ?_⟩
    · unfold frz at e
      by_cases l : u.lc k0 = true
      · rw [if_pos l] at e
        cases e
        exact L1 _ _ l h
      · rw [if_neg l] at e
        cases u <;> simp only at e <;> first | (cases e; done) | skip
        · rename_i us
          cases q : frzL (frz k0 σ n) us with
          | none => rw [q] at e; cases e
          | some ws => rw [q] at e; cases e; obtain ⟨ds, rfl, r⟩ := h; exact ⟨ds, rfl, frzL_ok i1 q r⟩
        · rename_i us
          cases q : frzL (frz k0 σ n) us with
          | none => rw [q] at e; cases e
          | some ws => rw [q] at e; cases e; obtain ⟨j, ds, rfl, e1, r⟩ := h; exact ⟨j, ds, rfl, hg _ _ e1, frzL_ok i1 q r⟩
        · rename_i ks us
          cases q : frzL (frz k0 σ n) us with
          | none => rw [q] at e; cases e
          | some ws => rw [q] at e; cases e; obtain ⟨j, ds, rfl, e1, e2, r⟩ := h; exact ⟨j, ds, rfl, hg _ _ e1, e2, frzL_ok i1 q r⟩
        · rename_i ks us
          cases q : frzL (frz k0 σ n) us with
          | none => rw [q] at e; cases e
          | some ws => rw [q] at e; cases e; obtain ⟨j, ds, rfl, e1, e2, r⟩ := h; exact ⟨j, ds, rfl, hg _ _ e1, e2, frzL_ok i1 q r⟩
        · rename_i c ks us
          cases q : frzL (frz k0 σ n) us with
          | none => rw [q] at e; cases e
          | some ws => rw [q] at e; cases e; obtain ⟨j, ds, rfl, e1, e2, r⟩ := h; exact ⟨j, ds, rfl, hg _ _ e1, e2, frzL_ok i1 q r⟩
        · rename_i k
          cases q : σ[k]? with
          | none => rw [q] at e; cases e
          | some u' =>
            rw [q] at e
            obtain ⟨j, rfl, e1⟩ := h
            obtain ⟨j', o, e2, e3, rc⟩ := R.ob k u' q
            rw [e1] at e2
            cases e2
            have hk : k0 ≤ k := by
              have : ¬ k < k0 := by simpa [U.lc] using l
              omega
            exact Rp.con (hole_some.mpr ⟨h2 k j e1 hk, e3⟩) (i2 u' w o e rc)
    · unfold frz at e
      by_cases l : u.lc k0 = true
      · rw [if_pos l] at e
        cases e
        exact h.with (L2' _ _ (lits _ l) h.its)
      · rw [if_neg l] at e
        cases u <;> simp only at e <;> first | (cases e; done) | (exact (show False from h).elim) | skip
        · rename_i us
          cases q : frzL (frz k0 σ n) us with
          | none => rw [q] at e; cases e
          | some ws => rw [q] at e; cases e; obtain ⟨ds, rfl, r⟩ := h; exact ⟨ds, rfl, frzL_ok i1 q r⟩
        · rename_i ks us
          cases q : frzL (frz k0 σ n) us with
          | none => rw [q] at e; cases e
          | some ws => rw [q] at e; cases e; obtain ⟨ds, rfl, e2, r⟩ := h; exact ⟨ds, rfl, e2, frzL_ok i1 q r⟩
        · rename_i ks us
          cases q : frzL (frz k0 σ n) us with
          | none => rw [q] at e; cases e
          | some ws => rw [q] at e; cases e; obtain ⟨ds, rfl, e2, r⟩ := h; exact ⟨ds, rfl, e2, frzL_ok i1 q r⟩
        · rename_i c ks us
          cases q : frzL (frz k0 σ n) us with
          | none => rw [q] at e; cases e
          | some ws => rw [q] at e; cases e; obtain ⟨ds, rfl, e2, r⟩ := h; exact ⟨ds, rfl, e2, frzL_ok i1 q r⟩
end
/-- the calls go together -/
def RCal (F : Fl) (f : Nat) (Z ns : List Nat) (M : Store) : U → D → List Nat → Store → Cs → Prop := fun u d x M1 _ => Rp (hole M1 (Z ++ x)) (ns ++ x) u d ∧ (F.fre f = true → u.box = true → ∃ j, d = .loc j ∧ M.length ≤ j)
def CallS (F : Fl) (pc : Pc) (cl : Cl) : Prop := ∀ (f : Nat) (vs : List U) (ds : List D) (Z ns : List Nat) (σ : Cs) (M : Store), Rel2 Z ns σ M → Rps (hole M Z) ns vs ds → Sim Z ns [] ns.length M (RCal F f Z ns M) (pc f vs σ) (cl f ds M)
def RVX (b : Bool) (Z ns : List Nat) (M0 : Store) : U → D → List Nat → Store → Cs → Prop := fun u d x M σ => Rp (hole M (Z ++ x)) (ns ++ x) u d ∧ (b = true → u.box = true → FreshOk Z ns M0 d x M σ)
theorem RVX.shift {b : Bool} {Z ns x y : List Nat} {M0 M1 M2 : Store} {σ : Cs} {u : U} {d : D} (h : RVX b (Z ++ x) (ns ++ x) M1 u d y M2 σ) (l : M0.length ≤ M1.length) : RVX b Z ns M0 u d (x ++ y) M2 σ := by
  obtain ⟨h1, h2⟩ := h
  rw [List.append_assoc, List.append_assoc] at h1
  refine ⟨h1, fun hb b => ?_⟩
  obtain ⟨j, M', e, l1, l2, l3, l4, l5, l6⟩ := h2 hb b
  rw [List.append_assoc, List.append_assoc] at l6
  exact ⟨j, M', e, Nat.le_trans l l1, l2, l3, l4, l5, l6⟩
theorem lc_fl : ∀ u : U, u.fl = true → u.box = false := fun u h => by cases u <;> first | rfl | cases h
section
variable {Z ns lk x : List Nat} {m : Nat} {M M1 : Store} {σ σ1 : Cs} {F : Fl} {pc : Pc} {cl : Cl}
theorem Rel2.pure (R : Rel2 Z ns σ M) : Rel2 Z [] [] M := ⟨rfl, List.nodup_nil, fun n h => (by cases h), R.lt, R.cl, fun k u e => (by simp at e)⟩
theorem Rel2.bare (R : Rel2 Z ns σ M) : Rel2 [] [] [] M := ⟨rfl, List.nodup_nil, fun n h => (by cases h), fun n h => (by cases h), R.cl, fun k u e => (by simp at e)⟩
/-- a call that changes nothing -/
theorem pure_st (R : Rel2 Z ns σ M) (le : M.length ≤ M1.length) (ext : ∀ n, n < M.length → M1[n]? = M[n]?) (cl : Closed M1) : St Z ns lk m M [] σ false M1 := by
  have hg : ∀ n o, hole M Z n = some o → hole M1 Z n = some o := fun n o e => by
    obtain ⟨a, b⟩ := hole_some.mp e
    exact hole_some.mpr ⟨a, (ext n (List.getElem?_eq_some_iff.mp b).1).trans b⟩
  refine ⟨le, fun n h _ => ext n h, fun n h => (by cases h), ?_, fun _ k n o' _ e eo => ⟨o', ?_, fun _ h => h⟩⟩
  · rw [List.append_nil, List.append_nil]
    refine ⟨R.len, R.nd, R.sub, fun n h => Nat.lt_of_lt_of_le (R.lt n h) le, cl, fun k u e => ?_⟩
    obtain ⟨n, o, e1, e2, r⟩ := R.ob k u e
    exact ⟨n, o, e1, (ext n (List.getElem?_eq_some_iff.mp e2).1).trans e2, r.with (Rps.mono hg (fun _ _ e => e) _ _ r.its)⟩
  · rw [← ext n (R.ltn n (List.mem_of_getElem? e))]
    exact eo
theorem frzL_free {n : Nat} : ∀ {us : List U}, lcL 0 us = true → frzL (frz 0 σ (n + 1)) us = some us
  | [], _ => rfl
  | u :: us, h => by
    obtain ⟨h1, h2⟩ := Bool.and_eq_true_iff.mp (show (u.lc 0 && lcL 0 us) = true from h)
    have e : frz 0 σ (n + 1) u = some u := by unfold frz; rw [if_pos h1]
    show (match frz 0 σ (n + 1) u, frzL (frz 0 σ (n + 1)) us with | some x, some xs => some (x :: xs) | _, _ => none) = _
    rw [e, frzL_free h2]
theorem calU_ok (C : CallS F pc cl) (R : Rel2 Z ns σ M) (hm : m ≤ ns.length) {f : Nat} {vs : List U} {ds : List D} (h : Rps (hole M Z) ns vs ds) : Sim Z ns lk m M (RVX (F.fre f && !F.io f) Z ns M) (calU F pc lk f vs σ) (cl f ds M) := by
  unfold calU
  by_cases io : F.io f = true
  · rw [if_pos io]
    by_cases hl : lk = []
    · rw [if_pos hl]
      subst hl
      have q := C f vs ds Z ns σ M R h
      have k : ∀ {x : List Nat} {σ1 : Cs} {z : Bool} {M1 : Store}, St Z ns [] ns.length M x σ1 z M1 → St Z ns [] m M x σ1 z M1 := fun s => ⟨s.le, s.ext, s.new, s.rel, fun hz k n o' hk e eo => s.keep hz k n o' (by omega) e eo⟩
      revert q
      cases pc f vs σ with
      | bad => exact fun _ => True.intro
      | exc c fs σ1 z =>
        rintro ⟨M1, x, e, hf, s⟩
        exact ⟨M1, x, e, hf, k s⟩
      | ok u σ1 z =>
        rintro ⟨d, M1, x, e, s, r⟩
        exact ⟨d, M1, x, e, k s, r.1, fun hz => by rw [io] at hz; simp at hz⟩
    · rw [if_neg hl]
      exact True.intro
  · rw [if_neg io]
    cases q : frzL (frz 0 σ 4) vs with
    | none => exact True.intro
    | some ws =>
      simp only
      by_cases fr : lcL 0 vs = true
      · rw [frzL_free fr] at q
        cases q
        have r0 : Rps (hole M Z) [] vs ds := Rps.low (m := 0) (fun k n hk => by omega) vs ds fr h
        have q := C f vs ds Z [] [] M R.pure r0
        revert q
        cases pc f vs [] with
        | bad => exact fun _ => True.intro
        | exc c fs σ1 z =>
          cases σ1 with
          | cons _ _ => exact fun _ => True.intro
          | nil =>
            rintro ⟨M1, x, e, hf, s⟩
            exact ⟨M1, [], e, hf, pure_st R s.le (fun n hn => s.ext n hn fun ⟨k, hk, _⟩ => by simp at hk) s.rel.cl⟩
        | ok u σ1 z =>
          cases σ1 with
          | cons _ _ => exact fun _ => True.intro
          | nil =>
            rintro ⟨d, M1, x, e, s, r1, r2⟩
            have hx : x = [] := List.eq_nil_of_length_eq_zero (by have := s.rel.len; simpa using this)
            subst hx
            have ext : ∀ n, n < M.length → M1[n]? = M[n]? := fun n hn => s.ext n hn fun ⟨k, hk, _⟩ => by simp at hk
            simp only
            rw [if_pos (by rw [fr]; rfl)]
            rw [List.append_nil] at r1
            refine ⟨d, M1, [], e, pure_st R s.le ext s.rel.cl, ?_, fun hz hb => ?_⟩
            · rw [List.append_nil, List.append_nil]
              exact Rp.mono (fun _ _ h => h) (fun k n h => by simp at h) u d r1
            · obtain ⟨j, rfl, hj⟩ := r2 (Bool.and_eq_true_iff.mp hz).1 hb
              exact ⟨j, M, rfl, Nat.le_refl _, hj, s.le, ext, s.rel.cl, by rw [List.append_nil, List.append_nil]; exact R⟩
      · have r0 : Rps (hole M []) [] ws ds := frzL_ok (frz_ok R (fun n h => (by cases h)) (fun _ _ _ _ h => (by cases h)) (fun k n h => (by omega)) 4).1 q h
        have q := C f ws ds [] [] [] M R.bare r0
        revert q
        cases pc f ws [] with
        | bad => exact fun _ => True.intro
        | exc c fs σ1 z =>
          cases σ1 with
          | cons _ _ => exact fun _ => True.intro
          | nil =>
            rintro ⟨M1, x, e, hf, s⟩
            exact ⟨M1, [], e, hf, pure_st R s.le (fun n hn => s.ext n hn fun ⟨k, hk, _⟩ => by simp at hk) s.rel.cl⟩
        | ok u σ1 z =>
          cases σ1 with
          | cons _ _ => exact fun _ => True.intro
          | nil =>
            rintro ⟨d, M1, x, e, s, r1, r2⟩
            simp only
            by_cases uf : u.fl = true
            · rw [if_pos (by rw [uf]; simp)]
              refine ⟨d, M1, [], e, pure_st R s.le (fun n hn => s.ext n hn fun ⟨k, hk, _⟩ => by simp at hk) s.rel.cl, (Rp.flat u d uf r1).1, fun _ hb => ?_⟩
              rw [lc_fl u uf] at hb
              cases hb
            · rw [if_neg (by simp [fr, uf])]
              exact True.intro
theorem makU_ok {G : Gl} (C : CallS F pc cl) (R : Rel2 Z ns σ M) (hm : m ≤ ns.length) {c : Nat} {vs : List U} {ds : List D} (h : Rps (hole M Z) ns vs ds) : Sim Z ns lk m M (RV2 Z ns) (makU G pc lk c vs σ) (makE G cl c ds M) := by
  unfold makU makE
  cases G.ini c with
  | none => exact True.intro
  | some g =>
    simp only
    by_cases hl : lk = []
    · rw [if_pos hl]
      subst hl
      have hz : ∀ n o, hole M Z n = some o → hole (M ++ [Ob.ins c []]) (Z ++ [M.length]) n = some o := fun n o e => by
        obtain ⟨a, b⟩ := hole_some.mp e
        have lt := (List.getElem?_eq_some_iff.mp b).1
        refine hole_some.mpr ⟨fun hm => ?_, get_old b⟩
        rcases List.mem_append.mp hm with hm | hm
        · exact a hm
        · have : n = M.length := by simpa using hm
          omega
      have hn : ∀ k n : Nat, ns[k]? = some n → (ns ++ [M.length])[k]? = some n := fun k n e => getApp e
      have nl : (ns ++ [M.length])[σ.length]? = some M.length := by
        rw [← R.len, List.getElem?_append_right (Nat.le_refl _), Nat.sub_self]
        rfl
      have u0 : undL M.length (Ob.ins c []).its = true := rfl
      have P := R.push u0
      have s0 : St Z ns [] m M [M.length] (σ ++ [.ins c [] []]) false (M ++ [.ins c []]) := by
        refine ⟨by rw [List.length_append]; omega, fun n h _ => List.getElem?_append_left h, fun n h => (by have : n = M.length := (by simpa using h); omega), ?_, fun _ k n o' _ hk e => ?_⟩
        · refine ⟨by simp [R.len], ?_, fun n h => ?_, fun n h => ?_, P.cl, fun k u e => ?_⟩
          · rw [List.nodup_append]
            refine ⟨R.nd, by simp, fun a ha b hb => ?_⟩
            have : b = M.length := by simpa using hb
            have := R.ltn a ha
            omega
          · rw [List.mem_append] at h ⊢
            rcases h with h | h
            · exact .inl (R.sub n h)
            · exact .inr h
          · rw [List.length_append]
            rcases List.mem_append.mp h with h | h
            · have := R.lt n h
              omega
            · have : n = M.length := by simpa using h
              show n < M.length + 1
              omega
          · by_cases hk : k < σ.length
            · rw [List.getElem?_append_left hk] at e
              obtain ⟨n, o, e1, e2, r⟩ := R.ob k u e
              exact ⟨n, o, hn k n e1, get_old e2, r.with (Rps.mono hz hn _ _ r.its)⟩
            · rw [List.getElem?_append_right (by omega)] at e
              cases hk' : k - σ.length with
              | zero =>
                rw [hk'] at e
                cases e
                have : k = σ.length := by omega
                subst this
                exact ⟨M.length, _, nl, get_new0 M [.ins c []], [], rfl, rfl, rfl⟩
              | succ i => rw [hk'] at e; simp at e
        · have hn := R.ltn n (List.mem_of_getElem? hk)
          rw [List.getElem?_append_left hn] at e
          exact ⟨o', e, fun _ h => h⟩
      have ha : Rps (hole (M ++ [.ins c []]) (Z ++ [M.length])) (ns ++ [M.length]) (.cel σ.length :: vs) (.loc M.length :: ds) := ⟨_, _, rfl, ⟨M.length, rfl, nl⟩, Rps.mono hz hn _ _ h⟩
      have q := C g _ _ _ _ _ _ s0.rel ha
      have B : Sim Z ns [] m M (RV2 Z ns) ((PO.ok () (σ ++ [.ins c [] []]) false).bind fun _ σ0 => (pc g (.cel σ.length :: vs) σ0).bind fun v σ2 => match v with
          | .non => .ok (.cel σ.length) σ2 false
          | _ => .bad) ((Out.ok () (M ++ [.ins c []])).bind fun _ M0 => (cl g (.loc M.length :: ds) M0).bind fun v M2 => match v with
          | .non => .ok (.loc M.length) M2
          | _ => .bad) := by
        refine Sim.bind (RA := fun _ _ x M1 σ1 => x = [M.length] ∧ M1 = M ++ [.ins c []] ∧ σ1 = σ ++ [.ins c [] []]) R ⟨(), _, _, rfl, s0, rfl, rfl, rfl⟩ ?_
        rintro _ _ x σ1 z M1 s ⟨rfl, rfl, rfl⟩
        have q' : Sim (Z ++ [M.length]) (ns ++ [M.length]) [] m (M ++ [.ins c []]) (RCal F g (Z ++ [M.length]) (ns ++ [M.length]) (M ++ [.ins c []])) (pc g (.cel σ.length :: vs) (σ ++ [.ins c [] []])) (cl g (.loc M.length :: ds) (M ++ [.ins c []])) := by
          have k : ∀ {x : List Nat} {σ1 : Cs} {z : Bool} {M1 : Store}, St (Z ++ [M.length]) (ns ++ [M.length]) [] (ns ++ [M.length]).length (M ++ [.ins c []]) x σ1 z M1 → St (Z ++ [M.length]) (ns ++ [M.length]) [] m (M ++ [.ins c []]) x σ1 z M1 := fun s => ⟨s.le, s.ext, s.new, s.rel, fun hz k n o' hk e eo => s.keep hz k n o' (by rw [List.length_append]; omega) e eo⟩
          revert q
          cases pc g (.cel σ.length :: vs) (σ ++ [.ins c [] []]) with
          | bad => exact fun _ => True.intro
          | exc c fs σ1 z =>
            rintro ⟨M1, x, e, hf, s⟩
            exact ⟨M1, x, e, hf, k s⟩
          | ok u σ1 z =>
            rintro ⟨d, M1, x, e, s, r⟩
            exact ⟨d, M1, x, e, k s, r⟩
        refine Sim.bind s.rel q' ?_
        intro u d y σ2 z2 M2 s2 r2
        cases u <;> first | exact True.intro | skip
        have e : d = .non := r2.1
        subst e
        refine Sim.ok s2.rel ?_
        show Rp _ _ (.cel σ.length) (.loc M.length)
        refine ⟨M.length, rfl, ?_⟩
        rw [← List.append_assoc]
        exact getApp nl
      have e1 : ∀ (f : Unit → Cs → PO U), (PO.ok () (σ ++ [U.ins c [] []]) false).bind f = f () (σ ++ [U.ins c [] []]) := fun f => by
        show PO.or false _ = _
        rw [PO.or_false]
      rw [e1] at B
      exact B
    · rw [if_neg hl]
      exact True.intro
/-- o.f = v -/
theorem attU_ok {G : Gl} {A : Nat → Str → Bool} {fr : Bool} {z : Bool} {o v : U} {dO dv : D} {f : Str} (R : Rel2 Z ns σ M) (s : St Z ns lk m M x σ1 z M1) (ho : Rp (hole M1 (Z ++ x)) (ns ++ x) o dO) (hv : Rp (hole M1 (Z ++ x)) (ns ++ x) v dv)
    (hf : fr = true → v.box = true → FreshOk Z ns M dv x M1 σ1) : match attU G lk m A fr σ1 o f v with
      | .ok _ σ2 z2 => ∃ M2 y, attE G M1 dO f dv = .ok () M2 ∧ St Z ns lk m M (x ++ y) σ2 (z || z2) M2
      | .exc _ _ _ _ => False
      | .bad => True := by
  unfold attU
  cases o <;> simp only <;> first | trivial | skip
  rename_i k
  cases e1 : σ1[k]? with
  | none => exact True.intro
  | some w =>
    cases w <;> simp only <;> first | trivial | skip
    rename_i c fs us
    by_cases hc : fs.length < 1000 ∧ G.fok c f = true
    · rw [if_pos hc]
      cases ht : thaw (A c f) fr v σ1 with
      | none => exact True.intro
      | some q =>
        obtain ⟨v', σ'⟩ := q
        obtain ⟨y, s2, hv2⟩ := thaw_ok R s hv hf ht
        have e1' : σ'[k]? = some (.ins c fs us) := by
          have lt := (List.getElem?_eq_some_iff.mp e1).1
          have hs : σ' = σ1 ∨ ∃ w, σ' = σ1 ++ [w] := by
            unfold thaw at ht
            split at ht
            · cases ht; exact .inl rfl
            · split at ht <;> first | (split at ht <;> first | (cases ht; exact .inr ⟨_, rfl⟩) | cases ht) | (cases ht; exact .inl rfl)
          rcases hs with rfl | ⟨w, rfl⟩
          · exact e1
          · rw [List.getElem?_append_left lt]
            exact e1
        have ho2 : Rp (hole M1 (Z ++ (x ++ y))) (ns ++ (x ++ y)) (.cel k) dO := by
          obtain ⟨n, rfl, en⟩ := ho
          exact ⟨n, rfl, by rw [← List.append_assoc]; exact getApp en⟩
        obtain ⟨n, ob, rfl, e2, e3, kvs, rfl, ek, r⟩ := cel_at s2.rel ho2 e1'
        subst ek
        simp only
        unfold putC
        by_cases hk : k ∈ lk
        · rw [if_pos hk]
          exact True.intro
        · rw [if_neg hk]
          obtain ⟨p1, p2, p3⟩ := putF_ok (f := f) hv2 r
          have t := put_ok (m := m) (lk := lk) (fl := v'.fl) (u' := .ins c (putF (kvs.map (·.1)) us f v').1 (putF (kvs.map (·.1)) us f v').2) (o' := .ins c (putD f dv kvs)) s2.rel e1' e2 e3 hk ⟨_, rfl, p1, p2⟩ fun z => locs_put hv2 z p3
          refine ⟨M1.set n (.ins c (putD f dv kvs)), y, ?_, ?_⟩
          · unfold attE
            simp only [e3]
            rw [List.length_map] at hc
            rw [if_pos hc]
          · have := s2.trans R t
            rw [List.append_nil] at this
            exact this
    · rw [if_neg hc]
      exact True.intro
end
end Dv
end

section
set_option Elab.async false
set_option autoImplicit false
set_option linter.all false
set_option maxRecDepth 100000
set_option maxHeartbeats 2000000
/-! PvI: every expression by values. -/
namespace Dv
open PySem L2
/-! ### what goes along -/
abbrev Rf (α β : Type) : Type := List Nat → List Nat → Store → α → β → List Nat → Store → Cs → Prop
def Shifts {α β : Type} (R : Rf α β) : Prop := ∀ Z ns x y M0 M1 M2 σ a b, R (Z ++ x) (ns ++ x) M1 a b y M2 σ → M0.length ≤ M1.length → R Z ns M0 a b (x ++ y) M2 σ
abbrev FV (b : Bool) : Rf U D := fun Z ns M => RVX b Z ns M
abbrev FVs : Rf (List U) (List D) := fun Z ns _ => RVs2 Z ns
abbrev FE {α : Type} : Rf α α := fun _ _ _ => REq
abbrev FS : Rf USrc Src := fun Z ns _ => RSrc Z ns
theorem sh_v {b : Bool} : Shifts (FV b) := fun Z ns x y M0 M1 M2 σ u d h l => RVX.shift h l
theorem sh_vs : Shifts FVs := fun Z ns x y M0 M1 M2 σ us ds h l => by
  have h : Rps (hole M2 ((Z ++ x) ++ y)) ((ns ++ x) ++ y) us ds := h
  rw [List.append_assoc, List.append_assoc] at h
  exact h
theorem sh_e {α : Type} : Shifts (FE (α := α)) := fun Z ns x y M0 M1 M2 σ a b h l => h
theorem sh_s : Shifts FS := fun Z ns x y M0 M1 M2 σ u s h l => by
  show RSrc Z ns u s (x ++ y) M2 σ
  have h : RSrc (Z ++ x) (ns ++ x) u s y M2 σ := h
  unfold RSrc at h ⊢
  rw [List.append_assoc, List.append_assoc] at h
  exact h
structure At (m : Nat) (Z ns : List Nat) (σ : Cs) (M : Store) (e : UE) (env : Env) : Prop where
  hm : m ≤ ns.length
  R : Rel2 Z ns σ M
  E : Re Z ns M e env
section
variable {Z ns lk x : List Nat} {m : Nat} {M M1 : Store} {σ σ1 : Cs} {e : UE} {env : Env} {z : Bool} {α β α' β' : Type}
theorem At.next (A : At m Z ns σ M e env) (s : St Z ns lk m M x σ1 z M1) : At m (Z ++ x) (ns ++ x) σ1 M1 e env := ⟨by rw [List.length_append]; have := A.hm; omega, s.rel, A.E.next A.R s⟩
theorem Sim.bindS {RA : α → β → List Nat → Store → Cs → Prop} {RB : Rf α' β'} (hR : Shifts RB) {p : PO α} {o : Out β} {f : α → Cs → PO α'} {h : β → Store → Out β'} (R : Rel2 Z ns σ M) (s : Sim Z ns lk m M RA p o)
    (k : ∀ a b x σ1 z M1, St Z ns lk m M x σ1 z M1 → RA a b x M1 σ1 → Sim (Z ++ x) (ns ++ x) lk m M1 (RB (Z ++ x) (ns ++ x) M1) (f a σ1) (h b M1)) : Sim Z ns lk m M (RB Z ns M) (p.bind f) (o.bind h) :=
  Sim.bind R s fun a b x σ1 z M1 t r => (k a b x σ1 z M1 t r).mono fun a b y M2 σ2 q => hR _ _ _ _ _ _ _ _ _ _ q t.le
theorem Sim.okV {b : Bool} {u : U} {d : D} (R : Rel2 Z ns σ M) (h : Rp (hole M Z) ns u d) (hb : b = true → u.box = false) : Sim Z ns lk m M (FV b Z ns M) (.ok u σ false) (.ok d M) := Sim.ok R ⟨by rw [List.append_nil, List.append_nil]; exact h, fun hz hx => by rw [hb hz] at hx; cases hx⟩
theorem Sim.okE {a : α} (R : Rel2 Z ns σ M) : Sim Z ns lk m M (FE (α := α) Z ns M) (.ok a σ false) (.ok a M) := Sim.ok R rfl
theorem Sim.toX {b : Bool} {p : PO U} {o : Out D} (s : Sim Z ns lk m M (RVF Z ns M) p o) : Sim Z ns lk m M (FV b Z ns M) p o := s.mono fun _ _ _ _ _ h => ⟨h.1, fun _ => h.2⟩
theorem Sim.toF {p : PO U} {o : Out D} (s : Sim Z ns lk m M (RV2 Z ns) p o) : Sim Z ns lk m M (FV false Z ns M) p o := s.mono fun _ _ _ _ _ h => ⟨h, fun z => by cases z⟩
theorem nil_rp {u : U} {d : D} (h : Rp (hole M (Z ++ [])) (ns ++ []) u d) : Rp (hole M Z) ns u d := by rwa [List.append_nil, List.append_nil] at h
end
structure Fac (m : Nat) (b : Bool) (lk : List Nat) (P : USem) (S : Sem) : Prop where
  e : ∀ {Z ns σ M e env}, At m Z ns σ M e env → Sim Z ns lk m M (FV b Z ns M) (P.e e σ) (S.e env M)
  t : ∀ {Z ns σ M e env}, At m Z ns σ M e env → Sim Z ns lk m M (FE Z ns M) (P.t e σ) (S.t env M)
  a : ∀ {Z ns σ M e env}, At m Z ns σ M e env → Sim Z ns lk m M (FVs Z ns M) (P.a e σ) (S.a env M)
  p : ∀ {Z ns σ M e env}, At m Z ns σ M e env → Sim Z ns lk m M (FE Z ns M) (P.p e σ) (S.p env M)
  i : ∀ {Z ns σ M e env}, At m Z ns σ M e env → Sim Z ns lk m M (FS Z ns M) (P.i e σ) (S.i env M)
  c : ∀ {Z ns σ M e env}, At m Z ns σ M e env → Sim Z ns lk m M (FE Z ns M) (P.c e σ) (S.c env M)
section
variable {m : Nat} {b : Bool} {lk : List Nat}
theorem tru_sim {Z ns : List Nat} {σ : Cs} {M : Store} {u : U} {d : D} (R : Rel2 Z ns σ M) (h : Rp (hole M Z) ns u d) : Sim Z ns lk m M (FE Z ns M) (ofU (truU σ u) σ) (ofO (truD M d) M) := Sim.ofO R fun c hc => ⟨c, truU_ok R h hc, rfl⟩
theorem Fac.val {f : UE → Cs → PO U} {g : Env → Store → Out D} (h : ∀ {Z ns σ M e env}, At m Z ns σ M e env → Sim Z ns lk m M (FV b Z ns M) (f e σ) (g env M)) : Fac m b lk (usE f) (semE g) where
  e := h
  t := fun A => Sim.bindS sh_e A.R (h A) fun u d x σ1 z M1 s r => tru_sim s.rel r.1
  a := fun A => True.intro
  p := fun A => Sim.bindS sh_e A.R (h A) fun u d x σ1 z M1 s r => by
    unfold asIntU
    cases u <;> first | exact True.intro | skip
    have e : d = .int _ := r.1
    subst e
    exact Sim.okE s.rel
  i := fun A => Sim.bindS sh_s A.R (h A) fun u d x σ1 z M1 s r => srcU_ok s.rel r.1
  c := fun A => Sim.bindS sh_e A.R (h A) fun u d x σ1 z M1 s r => tru_sim s.rel r.1
theorem Fac.tst {f : UE → Cs → PO U} {g : Env → Store → Out D} {t : UE → Cs → PO Bool} {t' : Env → Store → Out Bool} (h : ∀ {Z ns σ M e env}, At m Z ns σ M e env → Sim Z ns lk m M (FV b Z ns M) (f e σ) (g env M))
    (ht : ∀ {Z ns σ M e env}, At m Z ns σ M e env → Sim Z ns lk m M (FE Z ns M) (t e σ) (t' env M)) : Fac m b lk (usT f t) (semT g t') := { Fac.val h with t := ht, c := ht }
end
structure Cv (F : Fl) (pc : Pc) (cl : Cl) (cu : Option (Nat × List (Str × U))) (cu' : Option (Nat × List (Str × D))) : Prop where
  call : CallS F pc cl
  cuv : cu' = cu.map fun q => (q.1, fdF q.2)
  cuf : ∀ q, cu = some q → flF q.2 = true
section
variable {Z ns lk x : List Nat} {m : Nat} {M M1 : Store} {σ σ1 : Cs} {e : UE} {env : Env}
theorem ofC_ok {d : D} {u : U} {g : Nat → Option Ob} (h : ofC d = some u) : Rp g ns u d ∧ u.box = false := by
  cases d <;> first | (cases h; exact ⟨rfl, rfl⟩) | cases h
theorem fdF_lookup : ∀ {fs : List (Str × U)} {f : Str} {u : U}, fs.lookup f = some u → (fdF fs).lookup f = some u.fd
  | [], _, _, h => by cases h
  | (g, w) :: r, f, u, h => by
    rw [List.lookup_cons] at h
    show ((g, w.fd) :: fdF r).lookup f = _
    rw [List.lookup_cons]
    split at h
    · cases h
      rfl
    · exact fdF_lookup h
theorem flF_lookup : ∀ {fs : List (Str × U)} {f : Str} {u : U}, flF fs = true → fs.lookup f = some u → u.fl = true
  | [], _, _, _, h => by cases h
  | (g, w) :: r, f, u, hf, h => by
    obtain ⟨f1, f2⟩ := Bool.and_eq_true_iff.mp (show (w.fl && flF r) = true from hf)
    rw [List.lookup_cons] at h
    split at h
    · cases h; exact f1
    · exact flF_lookup f2 h
/-! ### slots -/
theorem bindN_ok : ∀ {is : List Nat} {us : List U} {ds : List D} {e e' : UE} {env : Env}, Re Z ns M e env → Rps (hole M Z) ns us ds → bindNU is us e = some e' → ∃ env', bindN is ds env = some env' ∧ Re Z ns M e' env'
  | [], us, ds, e, e', env, r, h, b => by
    cases us with
    | nil => cases h; cases b; exact ⟨env, rfl, r⟩
    | cons _ _ => cases b
  | i :: is, us, ds, e, e', env, r, h, b => by
    cases us with
    | nil => cases b
    | cons u us =>
      obtain ⟨d, ds, rfl, h1, h2⟩ := h
      have b : bindNU is us (e.set i (some u)) = some e' := b
      exact bindN_ok (is := is) (r.set h1) h2 b
theorem bindT_ok {tg : List Nat} {sole : Bool} {u : U} {d : D} {e' : UE} (r : Re Z ns M e env) (h : Rp (hole M Z) ns u d) (b : bindTU tg sole u e = some e') : ∃ env', bindT tg sole d env = some env' ∧ Re Z ns M e' env' := by
  cases sole with
  | true =>
    unfold bindTU at b
    unfold bindT
    simp only at b ⊢
    split at b
    · cases b
      exact ⟨_, rfl, r.set h⟩
    · cases b
  | false =>
    cases u <;> first | (cases b; done) | skip
    obtain ⟨ds, rfl, h⟩ := h
    exact bindN_ok r h b
theorem wipe_ok : ∀ (own : List Nat) {e : UE} {env : Env}, Re Z ns M e env → Re Z ns M (wipeU e own) (wipeD env own)
  | [], _, _, r => r
  | v :: vs, _, _, r => (wipe_ok vs r).unset
/-! ### comprehensions -/
theorem St.lock {k : List Nat} {z : Bool} {x : List Nat} (h : ∀ n, n ∈ lk → n ∈ k) (s : St Z ns k m M x σ1 z M1) : St Z ns lk m M x σ1 z M1 := ⟨s.le, fun n hn hm => s.ext n hn fun ⟨j, e, hj⟩ => hm ⟨j, e, fun z => hj (h j z)⟩, s.new, s.rel, s.keep⟩
theorem Sim.lock {α β : Type} {k : List Nat} {RA : α → β → List Nat → Store → Cs → Prop} {p : PO α} {o : Out β} (h : ∀ n, n ∈ lk → n ∈ k) (s : Sim Z ns k m M RA p o) : Sim Z ns lk m M RA p o := by
  cases p with
  | bad => exact True.intro
  | exc c fs σ1 z =>
    obtain ⟨M1, x, e, hf, t⟩ := s
    exact ⟨M1, x, e, hf, t.lock h⟩
  | ok a σ1 z =>
    obtain ⟨b, M1, x, e, t, r⟩ := s
    exact ⟨b, M1, x, e, t.lock h, r⟩
theorem lock_sub (s : USrc) : ∀ n, n ∈ lk → n ∈ s.lock lk := fun n h => by
  unfold USrc.lock
  split
  · exact List.mem_cons_of_mem _ h
  · exact h
/-- the source still stands -/
def Stands (k : List Nat) (m : Nat) (s : Src) (Z ns : List Nat) (M : Store) : Prop := ∀ {M' : Store} {y : List Nat} {σ' : Cs} {z : Bool}, St Z ns k m M y σ' z M' → s.stands M' = true
theorem Stands.next {k : List Nat} {s : Src} (h : Stands k m s Z ns M) (R : Rel2 Z ns σ M) {z : Bool} (t : St Z ns k m M x σ1 z M1) : Stands k m s (Z ++ x) (ns ++ x) M1 := fun t2 => h (t.trans R t2)
theorem comp_ok {k : List Nat} {s : Src} {tg : List Nat} {sole : Bool} {tt : UE → Cs → PO Bool} {te : UE → Cs → PO U} {tt' : Env → Store → Out Bool} {te' : Env → Store → Out D} {b : Bool}
    (ht : ∀ {Z ns σ M e env}, At m Z ns σ M e env → Sim Z ns k m M (FE Z ns M) (tt e σ) (tt' env M)) (he : ∀ {Z ns σ M e env}, At m Z ns σ M e env → Sim Z ns k m M (FV b Z ns M) (te e σ) (te' env M)) :
    ∀ (xs : List U) (ds : List D) (Z ns : List Nat) (σ : Cs) (M : Store) (e : UE) (env : Env) (acc : List U) (accd : List D), At m Z ns σ M e env → Stands k m s Z ns M → Rps (hole M Z) ns xs ds → Rps (hole M Z) ns acc accd →
      Sim Z ns k m M (FVs Z ns M) (compU tg sole e tt te xs acc σ) (compL s tg sole env tt' te' ds accd M)
  | [], ds, Z, ns, σ, M, e, env, acc, accd, A, hs, h, ha => by
    cases h
    unfold compU compL
    rw [if_pos (hs (St.refl A.R))]
    refine Sim.ok A.R ?_
    show Rps (hole M (Z ++ [])) (ns ++ []) acc accd
    rw [List.append_nil, List.append_nil]
    exact ha
  | u :: us, ds, Z, ns, σ, M, e, env, acc, accd, A, hs, h, ha => by
    obtain ⟨d, r, rfl, h1, h2⟩ := h
    unfold compU compL
    rw [if_pos (hs (St.refl A.R))]
    cases hb : bindTU tg sole u e with
    | none => exact True.intro
    | some e' =>
      obtain ⟨env', b1, r1⟩ := bindT_ok A.E h1 hb
      rw [b1]
      simp only
      refine Sim.bindS sh_vs A.R (ht ⟨A.hm, A.R, r1⟩).nox fun c c' x σ1 z M1 s1 q => ?_
      have q : c = c' := q
      subst q
      have A1 := A.next s1
      cases c with
      | false =>
        exact comp_ok ht he us r _ _ _ _ _ _ acc accd A1 (hs.next A.R s1) (s1.rps A.R h2) (s1.rps A.R ha)
      | true =>
        show Sim _ _ k m M1 _ (PO.bind _ _) (Out.bind _ _)
        have r1' : Re (Z ++ x) (ns ++ x) M1 e' env' := r1.next A.R s1
        refine Sim.bindS sh_vs A1.R (he ⟨A1.hm, A1.R, r1'⟩).nox fun v dv y σ2 z2 M2 s2 q => ?_
        have A2 := A1.next s2
        have ha2 := s2.rps A1.R (s1.rps A.R ha)
        rw [Rps.len ha2]
        split
        · exact comp_ok ht he us r _ _ _ _ _ _ _ _ A2 (Stands.next (s := s) (fun t => (Stands.next hs A.R s1) t) A1.R s2) (s2.rps A1.R (s1.rps A.R h2)) (Rps.app (Rps.one q.1) ha2)
        · exact True.intro
end
section
variable {G : Gl} {F : Fl} {pc : Pc} {cl : Cl} {m : Nat} {cu : Option (Nat × List (Str × U))} {cu' : Option (Nat × List (Str × D))} {lk : List Nat}
theorem dsp_ok {Z ns : List Nat} {M : Store} : ∀ {ks vs : List U} {dk dv : List D} {k0 : List Key} {u0 : List U} {kvs : List (Key × D)} {r : List Key × List U}, Rps (hole M Z) ns ks dk → Rps (hole M Z) ns vs dv → kvs.map (·.1) = k0 → Rps (hole M Z) ns u0 (kvs.map (·.2)) → dspU ks vs k0 u0 = some r →
    ∃ kvs', dspPut dk dv kvs = some kvs' ∧ kvs'.map (·.1) = r.1 ∧ Rps (hole M Z) ns r.2 (kvs'.map (·.2))
  | [], [], dk, dv, k0, u0, kvs, r, h1, h2, hk, hu, e => by
    cases h1; cases h2; cases e
    exact ⟨kvs, rfl, hk, hu⟩
  | [], _ :: _, dk, dv, k0, u0, kvs, r, h1, h2, hk, hu, e => by cases e
  | _ :: _, [], dk, dv, k0, u0, kvs, r, h1, h2, hk, hu, e => by cases e
  | a :: ks, v :: vs, dk, dv, k0, u0, kvs, r, h1, h2, hk, hu, e => by
    obtain ⟨da, dk, rfl, a1, h1⟩ := h1
    obtain ⟨dw, dv, rfl, a2, h2⟩ := h2
    unfold dspU at e
    split at e
    · rename_i k ek
      subst hk
      obtain ⟨p1, p2, _⟩ := putKD_ok (k := k) a2 hu
      obtain ⟨kvs', q1, q2, q3⟩ := dsp_ok h1 h2 p1 p2 e
      refine ⟨kvs', ?_, q2, q3⟩
      show (match da.key? with | some k => dspPut dk dv (putKD kvs k dw) | none => none) = _
      rw [Rp.key a1 ek]
      exact q1
    · cases e
theorem pair_ok {g : Nat → Option Ob} {ns : List Nat} : ∀ {us : List U} {ds : List D}, Rps g ns us ds → Rps g ns (pairUpU us).1 (pairUp ds).1 ∧ Rps g ns (pairUpU us).2 (pairUp ds).2
  | [], _, h => by cases h; exact ⟨rfl, rfl⟩
  | [u], _, h => by
    obtain ⟨d, r, rfl, h1, h2⟩ := h
    cases h2
    exact ⟨rfl, rfl⟩
  | u :: v :: us, _, h => by
    obtain ⟨d, r, rfl, h1, d2, r2, rfl, h2, h3⟩ := h
    obtain ⟨i1, i2⟩ := pair_ok h3
    exact ⟨⟨d, _, rfl, h1, i1⟩, ⟨d2, _, rfl, h2, i2⟩⟩
theorem src_its {Z ns x : List Nat} {M : Store} {σ : Cs} {us : USrc} {src : Src} (r : RSrc Z ns us src x M σ) : Rps (hole M (Z ++ x)) (ns ++ x) us.xs src.items := by
  cases src with
  | its ds => exact r.2
  | lst n ds => exact r.2.1
theorem all_v (C : Cv F pc cl cu cu') : ∀ (x : E) (lk : List Nat), Fac m (freshE F x) lk (pv G F pc m cu x lk) (ev G cl cu' x)
  | .nil, lk => { Fac.val (f := fun _ _ => .bad) (g := fun _ _ => .bad) (fun A => True.intro) with
      a := fun A => Sim.ok A.R rfl
      p := fun A => Sim.okE A.R
      c := fun A => Sim.okE A.R }
  | .cons x y, lk => { Fac.val (f := fun _ _ => .bad) (g := fun _ _ => .bad) (fun A => True.intro) with
      a := fun A => Sim.bindS sh_vs A.R ((all_v C x lk).e A) fun u d x1 σ1 z M1 s r => Sim.bindS sh_vs s.rel ((all_v C y lk).a (A.next s)) fun us ds x2 σ2 z2 M2 s2 r2 => by
        refine Sim.ok s2.rel ?_
        show Rps _ _ (u :: us) (d :: ds)
        rw [List.append_nil, List.append_nil]
        exact ⟨d, ds, rfl, s2.rp s.rel r.1, r2⟩ }
  | .rng x, lk => { Fac.val (f := fun _ _ => .bad) (g := fun _ _ => .bad) (fun A => True.intro) with
      i := fun A => Sim.bindS sh_s A.R ((all_v C x lk).a A) fun us ds x1 σ1 z M1 s r => rngU_ok s.rel r }
  | .var i, lk => Fac.val fun {Z ns σ M e env} A => by
    show Sim Z ns lk m M _ (varU i e σ) (varE i env M)
    unfold varU varE
    split
    · rename_i u eu
      obtain ⟨d, ed, h⟩ := A.E.at_ i u eu
      rw [ed]
      exact Sim.okV A.R h fun z => by cases z
    · exact True.intro
  | .non, lk => Fac.val fun A => Sim.okV A.R rfl fun _ => rfl
  | .bl b, lk => Fac.val fun A => Sim.okV A.R rfl fun _ => rfl
  | .int i, lk => Fac.val fun A => Sim.okV A.R rfl fun _ => rfl
  | .str s, lk => Fac.val fun A => Sim.okV A.R rfl fun _ => rfl
  | .glb k, lk => Fac.val fun {Z ns σ M e env} A => Sim.ofO A.R fun u hu => by
    cases hc : G.con k with
    | none => rw [hc] at hu; cases hu
    | some d =>
      rw [hc] at hu
      obtain ⟨h1, h2⟩ := ofC_ok (ns := ns ++ []) (g := hole M (Z ++ [])) hu
      exact ⟨d, rfl, h1, fun z => by cases z⟩
  | .bin o a b, lk => Fac.val fun A => Sim.bindS sh_v A.R ((all_v C a lk).e A) fun u d x1 σ1 z M1 s r => Sim.bindS sh_v s.rel ((all_v C b lk).e (A.next s)) fun v d2 x2 σ2 z2 M2 s2 r2 => Sim.toX (binU_ok s2.rel (s2.rp s.rel r.1) r2.1 o)
  | .neg a, lk => Fac.val fun A => Sim.bindS sh_v A.R ((all_v C a lk).e A) fun u d x1 σ1 z M1 s r => by
    cases u <;> first | exact True.intro | skip
    have e : d = .int _ := r.1
    subst e
    exact Sim.okV s.rel rfl fun _ => rfl
  | .cmp o a b, lk => Fac.val fun A => Sim.bindS sh_v A.R ((all_v C a lk).e A) fun u d x1 σ1 z M1 s r => Sim.bindS sh_v s.rel ((all_v C b lk).e (A.next s)) fun v d2 x2 σ2 z2 M2 s2 r2 =>
    Sim.bindS sh_v s2.rel (Sim.ofO (RA := REq) s2.rel fun c hc => ⟨c, cmpU_ok s2.rel (s2.rp s.rel r.1) r2.1 hc, rfl⟩) fun c c' x3 σ3 z3 M3 s3 q => by
      have q : c = c' := q
      subst q
      exact Sim.okV s3.rel rfl fun _ => rfl
  | .chn o p a b c, lk => Fac.val fun A => Sim.bindS sh_v A.R ((all_v C a lk).e A) fun u d x1 σ1 z M1 s r => Sim.bindS sh_v s.rel ((all_v C b lk).e (A.next s)) fun v d2 x2 σ2 z2 M2 s2 r2 =>
    Sim.bindS sh_v s2.rel (Sim.ofO (RA := REq) s2.rel fun c hc => ⟨c, cmpU_ok s2.rel (s2.rp s.rel r.1) r2.1 hc, rfl⟩) fun k k' x3 σ3 z3 M3 s3 q => by
      have q : k = k' := q
      subst q
      cases k with
      | false => exact Sim.okV s3.rel rfl fun _ => rfl
      | true =>
        refine Sim.bindS sh_v s3.rel ((all_v C c lk).e (((A.next s).next s2).next s3)) fun w d4 x4 σ4 z4 M4 s4 r4 => ?_
        refine Sim.bindS sh_v s4.rel (Sim.ofO (RA := REq) s4.rel fun c hc => ⟨c, cmpU_ok s4.rel (s4.rp s3.rel (s3.rp s2.rel r2.1)) r4.1 hc, rfl⟩) fun c c' x5 σ5 z5 M5 s5 q => ?_
        have q : c = c' := q
        subst q
        exact Sim.okV s5.rel rfl fun _ => rfl
  | .ch3 o p q a b c d, lk => Fac.val fun A => Sim.bindS sh_v A.R ((all_v C a lk).e A) fun u du x1 σ1 z M1 s r => Sim.bindS sh_v s.rel ((all_v C b lk).e (A.next s)) fun v d2 x2 σ2 z2 M2 s2 r2 =>
    Sim.bindS sh_v s2.rel (Sim.ofO (RA := REq) s2.rel fun c hc => ⟨c, cmpU_ok s2.rel (s2.rp s.rel r.1) r2.1 hc, rfl⟩) fun k k' x3 σ3 z3 M3 s3 q => by
      have q : k = k' := q
      subst q
      cases k with
      | false => exact Sim.okV s3.rel rfl fun _ => rfl
      | true =>
        refine Sim.bindS sh_v s3.rel ((all_v C c lk).e (((A.next s).next s2).next s3)) fun w d4 x4 σ4 z4 M4 s4 r4 => ?_
        refine Sim.bindS sh_v s4.rel (Sim.ofO (RA := REq) s4.rel fun c hc => ⟨c, cmpU_ok s4.rel (s4.rp s3.rel (s3.rp s2.rel r2.1)) r4.1 hc, rfl⟩) fun k k' x5 σ5 z5 M5 s5 q => ?_
        have q : k = k' := q
        subst q
        cases k with
        | false => exact Sim.okV s5.rel rfl fun _ => rfl
        | true =>
          refine Sim.bindS sh_v s5.rel ((all_v C d lk).e (((((A.next s).next s2).next s3).next s4).next s5)) fun t d6 x6 σ6 z6 M6 s6 r6 => ?_
          refine Sim.bindS sh_v s6.rel (Sim.ofO (RA := REq) s6.rel fun c hc => ⟨c, cmpU_ok s6.rel (s6.rp s5.rel (s5.rp s4.rel r4.1)) r6.1 hc, rfl⟩) fun c c' x7 σ7 z7 M7 s7 q => ?_
          have q : c = c' := q
          subst q
          exact Sim.okV s7.rel rfl fun _ => rfl
  | .and a b, lk => Fac.tst (fun A => Sim.bindS sh_v A.R ((all_v C a lk).e A) fun u d x1 σ1 z M1 s r => by
      cases u <;> first | exact True.intro | skip
      rename_i c
      have e : d = .bl c := r.1
      subst e
      cases c with
      | false => exact Sim.okV s.rel rfl fun _ => rfl
      | true => exact ((all_v C b lk).e (A.next s)).mono fun _ _ _ _ _ h => ⟨h.1, fun z => by cases z⟩)
    fun A => Sim.bindS sh_e A.R ((all_v C a lk).t A) fun c c' x1 σ1 z M1 s q => by
      have q : c = c' := q
      subst q
      cases c with
      | false => exact Sim.okE s.rel
      | true => exact (all_v C b lk).t (A.next s)
  | .or a b, lk => Fac.tst (fun A => Sim.bindS sh_v A.R ((all_v C a lk).e A) fun u d x1 σ1 z M1 s r => by
      cases u <;> first | exact True.intro | skip
      rename_i c
      have e : d = .bl c := r.1
      subst e
      cases c with
      | true => exact Sim.okV s.rel rfl fun _ => rfl
      | false => exact ((all_v C b lk).e (A.next s)).mono fun _ _ _ _ _ h => ⟨h.1, fun z => by cases z⟩)
    fun A => Sim.bindS sh_e A.R ((all_v C a lk).t A) fun c c' x1 σ1 z M1 s q => by
      have q : c = c' := q
      subst q
      cases c with
      | true => exact Sim.okE s.rel
      | false => exact (all_v C b lk).t (A.next s)
  | .not a, lk => Fac.tst (fun A => Sim.bindS sh_v A.R ((all_v C a lk).e A) fun u d x1 σ1 z M1 s r => Sim.bindS sh_v s.rel (tru_sim s.rel r.1) fun c c' x2 σ2 z2 M2 s2 q => by
      have q : c = c' := q
      subst q
      exact Sim.okV s2.rel rfl fun _ => rfl)
    fun A => Sim.bindS sh_e A.R ((all_v C a lk).t A) fun c c' x1 σ1 z M1 s q => by
      have q : c = c' := q
      subst q
      exact Sim.okE s.rel
  | .ife c a b, lk => Fac.tst (fun A => Sim.bindS sh_v A.R ((all_v C c lk).t A) fun k k' x1 σ1 z M1 s q => by
      have q : k = k' := q
      subst q
      cases k with
      | true => exact ((all_v C a lk).e (A.next s)).mono fun _ _ _ _ _ h => ⟨h.1, fun z => by cases z⟩
      | false => exact ((all_v C b lk).e (A.next s)).mono fun _ _ _ _ _ h => ⟨h.1, fun z => by cases z⟩)
    fun A => Sim.bindS sh_e A.R ((all_v C c lk).t A) fun k k' x1 σ1 z M1 s q => by
      have q : k = k' := q
      subst q
      cases k with
      | true => exact (all_v C a lk).t (A.next s)
      | false => exact (all_v C b lk).t (A.next s)
  | .tup es, lk => Fac.val fun A => Sim.bindS sh_v A.R ((all_v C es lk).a A) fun us ds x1 σ1 z M1 s r => by
      split
      · rename_i l
        rw [Rps.len r] at l
        rw [if_pos l]
        exact Sim.okV s.rel ⟨ds, rfl, r⟩ fun _ => rfl
      · exact True.intro
  | .lst es, lk => Fac.val fun A => Sim.bindS sh_v A.R ((all_v C es lk).a A) fun us ds x1 σ1 z M1 s r => by
      split
      · rename_i l
        rw [Rps.len r] at l
        unfold lstG
        rw [if_pos l]
        exact Sim.toX (lst_ok2 s.rel r)
      · exact True.intro
  | .dnl tk, lk => Fac.val fun A => by
      cases tk with
      | true => exact Sim.toX (mk_ok2 A.R (u := .dtt [] []) (o := .dtt []) ⟨[], rfl, rfl, rfl⟩)
      | false => exact Sim.toX (mk_ok2 A.R (u := .dct [] []) (o := .dct []) ⟨[], rfl, rfl, rfl⟩)
  | .dsp es, lk => Fac.val fun A => Sim.bindS sh_v A.R ((all_v C es lk).a A) fun us ds x1 σ1 z M1 s r => by
      show Sim _ _ lk m M1 _ (dspE' us σ1) (dspE ds M1)
      unfold dspE' dspE
      obtain ⟨p1, p2⟩ := pair_ok r
      split
      · rename_i kus ek
        obtain ⟨kvs, q1, q2, q3⟩ := dsp_ok (kvs := []) (k0 := []) (u0 := []) p1 p2 rfl (show Rps _ _ [] [] from rfl) ek
        rw [q1, ← Rps.len p1]
        simp only
        split
        · exact Sim.toX (mk_ok2 s.rel ⟨kvs, rfl, q2, q3⟩)
        · exact True.intro
      · exact True.intro
  | .idx a i, lk => Fac.val fun A => Sim.bindS sh_v A.R ((all_v C a lk).e A) fun u d x1 σ1 z M1 s r => Sim.bindS sh_v s.rel ((all_v C i lk).e (A.next s)) fun v d2 x2 σ2 z2 M2 s2 r2 =>
    Sim.ofO s2.rel fun w hw => by
      obtain ⟨dw, q1, q2⟩ := idxU_ok s2.rel (s2.rp s.rel r.1) r2.1 hw
      exact ⟨dw, q1, by rw [List.append_nil, List.append_nil]; exact q2, fun z => by cases z⟩
  | .slc a lo hi, lk => Fac.val fun A => Sim.bindS sh_v A.R ((all_v C a lk).e A) fun u d x1 σ1 z M1 s r => Sim.bindS sh_v s.rel ((all_v C lo lk).p (A.next s)) fun l l' x2 σ2 z2 M2 s2 q2 => by
    have q2 : l = l' := q2
    subst q2
    refine Sim.bindS sh_v s2.rel ((all_v C hi lk).p ((A.next s).next s2)) fun h h' x3 σ3 z3 M3 s3 q3 => ?_
    have q3 : h = h' := q3
    subst q3
    exact Sim.toX (slcU_ok s3.rel (s3.rp s2.rel (s2.rp s.rel r.1)) l h)
  | .rev a, lk => Fac.val fun A => Sim.bindS sh_v A.R ((all_v C a lk).e A) fun u d x1 σ1 z M1 s r => Sim.toX (revU_ok s.rel r.1)
  | .fld a f, lk => Fac.val fun A => Sim.bindS sh_v A.R ((all_v C a lk).e A) fun u d x1 σ1 z M1 s r => Sim.toF (fldU_ok s.rel r.1)
  | .cal f es, lk => Fac.val fun A => Sim.bindS sh_v A.R ((all_v C es lk).a A) fun us ds x1 σ1 z M1 s r => calU_ok C.call s.rel (A.next s).hm r
  | .mak c es, lk => Fac.val fun A => Sim.bindS sh_v A.R ((all_v C es lk).a A) fun us ds x1 σ1 z M1 s r => Sim.toF (makU_ok C.call s.rel (A.next s).hm r)
  | .mth o i es, lk => Fac.val fun A => Sim.bindS sh_v A.R ((all_v C o lk).e A) fun u d x1 σ1 z M1 s r => by
      split
      · rename_i g eg
        rw [mthU_ok s.rel r.1 eg]
        refine Sim.bindS sh_v s.rel ((all_v C es lk).a (A.next s)) fun us ds x2 σ2 z2 M2 s2 r2 => ?_
        exact (calU_ok C.call s2.rel ((A.next s).next s2).hm (vs := u :: us) (ds := d :: ds) ⟨d, ds, rfl, s2.rp s.rel r.1, r2⟩).mono fun _ _ _ _ _ h => ⟨h.1, fun z => by cases z⟩
      · exact True.intro
  | .bi b es, lk => Fac.val fun A => Sim.bindS sh_v A.R ((all_v C es lk).a A) fun us ds x1 σ1 z M1 s r => Sim.toX (biU_ok s.rel r b)
  | .bm b o es, lk => Fac.val fun A => Sim.bindS sh_v A.R ((all_v C o lk).e A) fun u d x1 σ1 z M1 s r => by
      split
      · rename_i h
        rw [if_pos (bmTyU_ok s.rel r.1 h)]
        exact Sim.bindS sh_v s.rel ((all_v C es lk).a (A.next s)) fun us ds x2 σ2 z2 M2 s2 r2 => Sim.toF (bmU_ok s2.rel (s2.rp s.rel r.1) r2 b)
      · exact True.intro
  | .isi a t, lk => Fac.val fun A => Sim.bindS sh_v A.R ((all_v C a lk).e A) fun u d x1 σ1 z M1 s r =>
    Sim.bindS sh_v s.rel (Sim.ofO (RA := REq) s.rel fun c hc => ⟨c, isiU_ok s.rel r.1 hc, rfl⟩) fun c c' x3 σ3 z3 M3 s3 q => by
      have q : c = c' := q
      subst q
      exact Sim.okV s3.rel rfl fun _ => rfl
  | .isx c, lk => Fac.val fun {Z ns σ M e env} A => by
      show Sim Z ns lk m M _ (isxU G cu c σ) (isxE G cu' c M)
      rw [C.cuv]
      unfold isxU isxE
      cases cu with
      | none => exact True.intro
      | some q =>
        obtain ⟨k, fs⟩ := q
        cases fs with
        | cons _ _ => exact True.intro
        | nil =>
          show Sim Z ns lk m M _ (if _ then _ else _) (if _ then _ else _)
          split
          · exact Sim.okV A.R rfl fun _ => rfl
          · exact True.intro
  | .xfd f, lk => Fac.val fun {Z ns σ M e env} A => by
      show Sim Z ns lk m M _ (xfdU G cu f σ) (xfdE G cu' f M)
      have cf := C.cuf
      rw [C.cuv]
      unfold xfdU xfdE
      cases cu with
      | none => exact True.intro
      | some q =>
        obtain ⟨k, fs⟩ := q
        show Sim Z ns lk m M _ (if _ then _ else _) (if _ then _ else _)
        split
        · refine Sim.ofO A.R fun u hu => ?_
          have fl := flF_lookup (cf _ rfl) hu
          exact ⟨u.fd, fdF_lookup hu, Rp.ofl u fl, fun z => by cases z⟩
        · exact True.intro
  | .cmp1 elt tg sole own it cond, lk => Fac.val fun {Z ns σ M e env} A => Sim.bindS sh_v A.R ((all_v C it lk).i A) fun us src x1 σ1 z M1 s r => by
      have A1 := A.next s
      obtain ⟨hl, hst⟩ := stands_ok (m := m) (lk := lk) s.rel r
      have hx : Rps (hole M1 (Z ++ x1)) (ns ++ x1) us.xs src.items := src_its r
      have E1 := wipe_ok own A1.E
      have key := comp_ok (k := us.lock lk) (s := src) (tg := tg) (sole := sole) (b := freshE F elt) (fun A => (all_v C cond (us.lock lk)).c A) (fun A => (all_v C elt (us.lock lk)).e A) us.xs src.items _ _ _ _ _ _ [] [] ⟨A1.hm, A1.R, E1⟩ (fun t => hst t) hx rfl
      refine Sim.bindS sh_v s.rel (key.lock (lock_sub us)) fun xs ds x2 σ2 z2 M2 s2 r2 => ?_
      unfold lstG
      rw [Rps.len r2]
      split
      · exact Sim.toX (lst_ok2 s2.rel r2)
      · exact True.intro
end
end Dv
end

section
set_option Elab.async false
set_option autoImplicit false
set_option linter.all false
set_option maxRecDepth 100000
set_option maxHeartbeats 2000000
/-! PvJ: every statement, every call by values. -/
namespace Dv
open PySem L2
def SimS (Z ns lk : List Nat) (m : Nat) (M : Store) (p : PR) (r : Rs) : Prop := match p with
  | .nx e σ z => ∃ env M' x, r = .nx env M' ∧ St Z ns lk m M x σ z M' ∧ Re (Z ++ x) (ns ++ x) M' e env
  | .rt u σ z => ∃ d M' x, r = .rt d M' ∧ St Z ns lk m M x σ z M' ∧ Rp (hole M' (Z ++ x)) (ns ++ x) u d
  | .exc c fs e σ z => ∃ env M' x, r = .exc c (fdF fs) env M' ∧ flF fs = true ∧ St Z ns lk m M x σ z M' ∧ Re (Z ++ x) (ns ++ x) M' e env
  | .bad => True
section
variable {Z ns lk x : List Nat} {m : Nat} {M M1 : Store} {σ σ1 : Cs} {e : UE} {env : Env} {z : Bool} {α β : Type}
theorem SimS.or {q : PR} {r : Rs} (R : Rel2 Z ns σ M) (s : St Z ns lk m M x σ1 z M1) (h : SimS (Z ++ x) (ns ++ x) lk m M1 q r) : SimS Z ns lk m M (q.or z) r := by
  cases q with
  | bad => exact True.intro
  | nx e2 σ2 z2 =>
    obtain ⟨env2, M2, y, e1, t, re⟩ := h
    refine ⟨env2, M2, x ++ y, e1, s.trans R t, ?_⟩
    rw [List.append_assoc, List.append_assoc] at re
    exact re
  | rt u σ2 z2 =>
    obtain ⟨d, M2, y, e1, t, re⟩ := h
    refine ⟨d, M2, x ++ y, e1, s.trans R t, ?_⟩
    rw [List.append_assoc, List.append_assoc] at re
    exact re
  | exc c fs e2 σ2 z2 =>
    obtain ⟨env2, M2, y, e1, hf, t, re⟩ := h
    refine ⟨env2, M2, x ++ y, e1, hf, s.trans R t, ?_⟩
    rw [List.append_assoc, List.append_assoc] at re
    exact re
theorem SimS.run {RA : α → β → List Nat → Store → Cs → Prop} {p : PO α} {o : Out β} {f : α → Cs → PR} {h : β → Store → Rs} (A : At m Z ns σ M e env) (s : Sim Z ns lk m M RA p o)
    (k : ∀ a b x σ1 z M1, St Z ns lk m M x σ1 z M1 → RA a b x M1 σ1 → SimS (Z ++ x) (ns ++ x) lk m M1 (f a σ1) (h b M1)) : SimS Z ns lk m M (p.run e f) (o.run env h) := by
  cases p with
  | bad => exact True.intro
  | exc c fs σ1 z =>
    obtain ⟨M1, x, rfl, hf, t⟩ := s
    exact ⟨env, M1, x, rfl, hf, t, A.E.next A.R t⟩
  | ok a σ1 z =>
    obtain ⟨b, M1, x, rfl, t, r⟩ := s
    exact SimS.or A.R t (k a b x σ1 z M1 t r)
theorem SimS.andThen {p : PR} {r : Rs} {f : UE → Cs → PR} {h : Env → Store → Rs} (R : Rel2 Z ns σ M) (s : SimS Z ns lk m M p r)
    (k : ∀ e env x σ1 z M1, St Z ns lk m M x σ1 z M1 → Re (Z ++ x) (ns ++ x) M1 e env → SimS (Z ++ x) (ns ++ x) lk m M1 (f e σ1) (h env M1)) : SimS Z ns lk m M (p.andThen f) (r.andThen h) := by
  cases p with
  | bad => exact True.intro
  | rt u σ1 z =>
    obtain ⟨d, M1, x, rfl, t, r⟩ := s
    exact ⟨d, M1, x, rfl, t, r⟩
  | exc c fs e1 σ1 z =>
    obtain ⟨env1, M1, x, rfl, hf, t, r⟩ := s
    exact ⟨env1, M1, x, rfl, hf, t, r⟩
  | nx e1 σ1 z =>
    obtain ⟨env1, M1, x, rfl, t, r⟩ := s
    exact SimS.or R t (k e1 env1 x σ1 z M1 t r)
theorem SimS.lock {k : List Nat} {p : PR} {r : Rs} (h : ∀ n, n ∈ lk → n ∈ k) (s : SimS Z ns k m M p r) : SimS Z ns lk m M p r := by
  cases p with
  | bad => exact True.intro
  | nx e σ1 z =>
    obtain ⟨a, b, x, e1, t, r⟩ := s
    exact ⟨a, b, x, e1, t.lock h, r⟩
  | rt u σ1 z =>
    obtain ⟨a, b, x, e1, t, r⟩ := s
    exact ⟨a, b, x, e1, t.lock h, r⟩
  | exc c fs e σ1 z =>
    obtain ⟨a, b, x, e1, hf, t, r⟩ := s
    exact ⟨a, b, x, e1, hf, t.lock h, r⟩
theorem SimS.nx (A : At m Z ns σ M e env) : SimS Z ns lk m M (.nx e σ false) (.nx env M) := ⟨env, M, [], rfl, St.refl A.R, by rw [List.append_nil, List.append_nil]; exact A.E⟩
end
section
variable {G : Gl} {F : Fl} {pc : Pc} {cl : Cl} {m f : Nat} {cu : Option (Nat × List (Str × U))} {cu' : Option (Nat × List (Str × D))}
theorem asg_okS (C : Cv F pc cl cu cu') {Z ns lk : List Nat} {σ : Cs} {M : Store} {e : UE} {env : Env} {b : Bool} {t : T} {p : PO U} {o : Out D} (A : At m Z ns σ M e env) (s : Sim Z ns lk m M (FV b Z ns M) p o) :
    SimS Z ns lk m M (p.run e fun v σ1 => asgU G F pc m f cu lk t b v e σ1) (o.run env fun v M1 => asgT G cl cu' t v env M1) := by
  cases p with
  | bad => exact True.intro
  | exc c fs σ1 z =>
    obtain ⟨M1, x, rfl, hf, t⟩ := s
    exact ⟨env, M1, x, rfl, hf, t, A.E.next A.R t⟩
  | ok v σ1 z =>
    obtain ⟨d, M1, x, rfl, s, r⟩ := s
    show SimS Z ns lk m M ((asgU G F pc m f cu lk t b v e σ1).or z) (asgT G cl cu' t d env M1)
    have A1 := A.next s
    cases t with
    | nm i =>
      unfold asgU asgT
      simp only
      cases ht : thaw (F.O f i) b v σ1 with
      | none => exact True.intro
      | some q =>
        obtain ⟨u, σ'⟩ := q
        obtain ⟨y, s2, h2⟩ := thaw_ok A.R s r.1 r.2 ht
        refine ⟨env.set i (some d), M1, x ++ y, rfl, ?_, (A.E.next A.R s2).set h2⟩
        rw [Bool.or_false]
        exact s2
    | tp is =>
      unfold asgU asgT
      simp only
      cases v <;> first | exact True.intro | skip
      obtain ⟨ds, rfl, h⟩ := r.1
      simp only
      split
      · rename_i e' he
        obtain ⟨env', b1, r1⟩ := bindN_ok A1.E h he
        rw [b1]
        refine ⟨env', M1, x, rfl, ?_, r1⟩
        rw [Bool.or_false]
        exact s
      · exact True.intro
    | sub o i =>
      refine SimS.or A.R s ?_
      unfold asgU asgT
      refine SimS.run A1 ((all_v C o lk).e A1) fun u1 d1 x1 σ2 z1 M2 s1 r1 => ?_
      have A2 := A1.next s1
      refine SimS.run A2 ((all_v C i lk).e A2) fun u2 d2 x2 σ3 z2 M3 s2 r2 => ?_
      have A3 := A2.next s2
      refine SimS.run A3 (setU_ok A3.R (s2.rp A2.R r1.1) r2.1 (s2.rp A2.R (s1.rp A1.R r.1))) fun _ _ x3 σ4 z3 M4 s3 _ => ?_
      exact SimS.nx (A3.next s3)
    | att o g =>
      unfold asgU asgT
      simp only
      have fin : ∀ {x' : List Nat} {σ2 : Cs} {z2 : Bool} {M2 : Store} {fr : Bool} {u1 : U} {d1 : D}, St Z ns lk m M x' σ2 z2 M2 → Rp (hole M2 (Z ++ x')) (ns ++ x') u1 d1 → Rp (hole M2 (Z ++ x')) (ns ++ x') v d → (fr = true → v.box = true → FreshOk Z ns M d x' M2 σ2) →
          SimS Z ns lk m M (((attU G lk m F.A fr σ2 u1 g v).run e fun _ σ3 => .nx e σ3 false).or z2) ((attE G M2 d1 g d).run env fun _ M3 => .nx env M3) := by
        intro x' σ2 z2 M2 fr u1 d1 s' h1 h2 h3
        have q := attU_ok (G := G) (A := F.A) (f := g) A.R s' h1 h2 h3
        revert q
        cases attU G lk m F.A fr σ2 u1 g v with
        | bad => exact fun _ => True.intro
        | exc _ _ _ _ => exact fun q => q.elim
        | ok r0 σ3 z3 =>
          rintro ⟨M3, y, e3, s3⟩
          rw [e3]
          refine ⟨env, M3, x' ++ y, rfl, ?_, A.E.next A.R s3⟩
          rw [Bool.or_false]
          exact s3
      have gen : SimS Z ns lk m M (((((pv G F pc m cu o lk).e e σ1).run e fun x σ1 => (attU G lk m F.A false σ1 x g v).run e fun _ σ2 => .nx e σ2 false)).or z) ((evE G cl cu' o env M1).run env fun x M1 => (attE G M1 x g d).run env fun _ M2 => .nx env M2) := by
        have q := (all_v (G := G) C o lk).e A1
        show SimS Z ns lk m M _ (((ev G cl cu' o).e env M1).run env _)
        revert q
        cases (pv G F pc m cu o lk).e e σ1 with
        | bad => exact fun _ => True.intro
        | exc c fs σ2 z2 =>
          rintro ⟨M2, y, e2, hf, t⟩
          rw [e2]
          refine SimS.or A.R s ?_
          exact ⟨env, M2, y, rfl, hf, t, A1.E.next A1.R t⟩
        | ok u1 σ2 z2 =>
          rintro ⟨d1, M2, y, e2, t, r1⟩
          rw [e2]
          have t' := s.trans A.R t
          have h1 := r1.1
          have h2 := t.rp A1.R r.1
          rw [List.append_assoc, List.append_assoc] at h1 h2
          have := fin (fr := false) t' h1 h2 (fun z => by cases z)
          revert this
          show SimS Z ns lk m M ((PR.or (z || z2) ((attU G lk m F.A false σ2 u1 g v).run e fun _ σ3 => .nx e σ3 false))) _ → SimS Z ns lk m M (PR.or z (PR.or z2 ((attU G lk m F.A false σ2 u1 g v).run e fun _ σ3 => .nx e σ3 false))) _
          have : ∀ q : PR, PR.or z (PR.or z2 q) = PR.or (z || z2) q := fun q => by cases q <;> simp [PR.or, Bool.or_assoc]
          rw [this]
          exact fun h => h
      cases o with
      | var i =>
        simp only [Bool.and_true]
        show SimS Z ns lk m M (((varU i e σ1).run e _).or z) ((varE i env M1).run env _)
        unfold varU varE
        split
        · rename_i u eu
          obtain ⟨d1, ed, h1⟩ := A1.E.at_ i u eu
          rw [ed]
          have := fin s h1 r.1 r.2
          show SimS Z ns lk m M (PR.or z (PR.or false ((attU G lk m F.A b σ1 u g v).run e fun _ σ3 => .nx e σ3 false))) _
          have e0 : ∀ q : PR, PR.or false q = q := fun q => by cases q <;> simp [PR.or]
          rw [e0]
          exact this
        · exact True.intro
      | _ => simp only [Bool.and_false]; exact gen
/-- a for's turns -/
theorem for_ok2 {k : List Nat} {s : Src} {tg : List Nat} {sole : Bool} {body : UE → Cs → PR} {body' : Env → Store → Rs} (hb : ∀ {Z ns σ M e env}, At m Z ns σ M e env → SimS Z ns k m M (body e σ) (body' env M)) :
    ∀ (xs : List U) (ds : List D) (Z ns : List Nat) (σ : Cs) (M : Store) (e : UE) (env : Env), At m Z ns σ M e env → Stands k m s Z ns M → Rps (hole M Z) ns xs ds → SimS Z ns k m M (forU tg sole body xs e σ) (forL s tg sole body' ds env M)
  | [], ds, Z, ns, σ, M, e, env, A, hs, h => by
    cases h
    unfold forU forL
    rw [if_pos (hs (St.refl A.R))]
    exact SimS.nx A
  | u :: us, ds, Z, ns, σ, M, e, env, A, hs, h => by
    obtain ⟨d, r, rfl, h1, h2⟩ := h
    unfold forU forL
    rw [if_pos (hs (St.refl A.R))]
    cases hbt : bindTU tg sole u e with
    | none => exact True.intro
    | some e' =>
      obtain ⟨env', b1, r1⟩ := bindT_ok A.E h1 hbt
      rw [b1]
      simp only
      refine SimS.andThen A.R (hb ⟨A.hm, A.R, r1⟩) fun e2 env2 x σ1 z M1 s1 re => ?_
      exact for_ok2 hb us r _ _ _ _ _ _ ⟨(A.next s1).hm, s1.rel, re⟩ (fun t => (Stands.next hs A.R s1) t) (s1.rps A.R h2)
theorem whl_ok2 {lk : List Nat} {c : UE → Cs → PO Bool} {c' : Env → Store → Out Bool} {body : UE → Cs → PR} {body' : Env → Store → Rs} (hc : ∀ {Z ns σ M e env}, At m Z ns σ M e env → Sim Z ns lk m M (FE Z ns M) (c e σ) (c' env M))
    (hb : ∀ {Z ns σ M e env}, At m Z ns σ M e env → SimS Z ns lk m M (body e σ) (body' env M)) :
    ∀ (n : Nat) (Z ns : List Nat) (σ : Cs) (M : Store) (e : UE) (env : Env), At m Z ns σ M e env → SimS Z ns lk m M (whlU c body n e σ) (whlL c' body' n env M)
  | 0, Z, ns, σ, M, e, env, A => True.intro
  | n + 1, Z, ns, σ, M, e, env, A => by
    unfold whlU whlL
    refine SimS.run A (hc A) fun b b' x σ1 z M1 s q => ?_
    have q : b = b' := q
    subst q
    have A1 := A.next s
    cases b with
    | false => exact SimS.nx A1
    | true => exact SimS.andThen A1.R (hb A1) fun e2 env2 y σ2 z2 M2 s2 re => whl_ok2 hc hb n _ _ _ _ _ _ ⟨(A1.next s2).hm, s2.rel, re⟩
theorem fdF_zip : ∀ (fs : List Str) (us : List U), fdF (fs.zip us) = fs.zip (fdL us)
  | [], _ => rfl
  | _ :: _, [] => rfl
  | f :: fs, u :: us => by
    show (f, u.fd) :: fdF (fs.zip us) = (f, u.fd) :: fs.zip (fdL us)
    rw [fdF_zip fs us]
theorem flF_zip : ∀ (fs : List Str) (us : List U), flL us = true → flF (fs.zip us) = true
  | [], _, _ => rfl
  | _ :: _, [], _ => rfl
  | f :: fs, u :: us, h => by
    obtain ⟨h1, h2⟩ := Bool.and_eq_true_iff.mp (show (u.fl && flL us) = true from h)
    show (u.fl && flF (fs.zip us)) = true
    rw [h1, flF_zip fs us h2]
    rfl
theorem undL0 {ds : List D} (h : locsL 0 ds = []) : undL 0 ds = true := (undL_iff 0 ds).mpr fun k hk => by rw [h] at hk; cases hk
theorem endTry_ok {Z ns lk : List Nat} {M : Store} (nm : Option Nat) {p : PR} {r : Rs} (h : SimS Z ns lk m M p r) : SimS Z ns lk m M (endTryU nm p) (endTry nm r) := by
  cases p with
  | bad => exact True.intro
  | exc _ _ _ _ _ => exact True.intro
  | rt u σ2 z2 =>
    obtain ⟨d, M2, y, rfl, t, r⟩ := h
    exact ⟨d, M2, y, rfl, t, r⟩
  | nx e3 σ2 z2 =>
    obtain ⟨env3, M2, y, rfl, t, r⟩ := h
    refine ⟨_, M2, y, rfl, t, ?_⟩
    cases nm with
    | none => exact r
    | some i => exact r.unset
theorem all_s : ∀ (x : S) (cu : Option (Nat × List (Str × U))) (cu' : Option (Nat × List (Str × D))) (lk : List Nat), Cv F pc cl cu cu' → ∀ {Z ns : List Nat} {σ : Cs} {M : Store} {e : UE} {env : Env}, At m Z ns σ M e env → SimS Z ns lk m M (pS G F pc m f x cu lk e σ) (exS G cl x cu' env M)
  | .nil, cu, cu', lk, C, Z, ns, σ, M, e, env, A => SimS.nx A
  | .cons x y, cu, cu', lk, C, Z, ns, σ, M, e, env, A => SimS.andThen A.R (all_s x cu cu' lk C A) fun e2 env2 x1 σ1 z M1 s re => all_s y cu cu' lk C ⟨(A.next s).hm, s.rel, re⟩
  | .asg t x, cu, cu', lk, C, Z, ns, σ, M, e, env, A => asg_okS C A ((all_v C x lk).e A)
  | .ex x, cu, cu', lk, C, Z, ns, σ, M, e, env, A => SimS.run A ((all_v C x lk).e A) fun u d x1 σ1 z M1 s r => SimS.nx (A.next s)
  | .ret x, cu, cu', lk, C, Z, ns, σ, M, e, env, A => SimS.run A ((all_v C x lk).e A) fun u d x1 σ1 z M1 s r => ⟨d, M1, [], rfl, St.refl s.rel, by rw [List.append_nil, List.append_nil]; exact r.1⟩
  | .retN, cu, cu', lk, C, Z, ns, σ, M, e, env, A => ⟨.non, M, [], rfl, St.refl A.R, rfl⟩
  | .pas, cu, cu', lk, C, Z, ns, σ, M, e, env, A => SimS.nx A
  | .ite c a b, cu, cu', lk, C, Z, ns, σ, M, e, env, A => SimS.run A ((all_v C c lk).t A) fun k k' x1 σ1 z M1 s q => by
      have q : k = k' := q
      subst q
      cases k with
      | true => exact all_s a cu cu' lk C (A.next s)
      | false => exact all_s b cu cu' lk C (A.next s)
  | .for_ tg sole it body, cu, cu', lk, C, Z, ns, σ, M, e, env, A => SimS.run A ((all_v C it lk).i A) fun us src x1 σ1 z M1 s r => by
      have A1 := A.next s
      obtain ⟨hl, hst⟩ := stands_ok (m := m) (lk := lk) s.rel r
      exact SimS.lock (lock_sub us) (for_ok2 (k := us.lock lk) (s := src) (fun A => all_s body cu cu' (us.lock lk) C A) us.xs src.items _ _ _ _ _ _ A1 (fun t => hst t) (src_its r))
  | .whl c body, cu, cu', lk, C, Z, ns, σ, M, e, env, A => whl_ok2 (fun A => (all_v C c lk).t A) (fun A => all_s body cu cu' lk C A) 100000 _ _ _ _ _ _ A
  | .rai c es, cu, cu', lk, C, Z, ns, σ, M, e, env, A => SimS.run A ((all_v C es lk).a A) fun us ds x1 σ1 z M1 s r => by
      have A1 := A.next s
      unfold raiU raiE
      cases G.exi c with
      | none =>
        simp only
        rw [← Rps.len r]
        split
        · exact ⟨env, M1, [], rfl, rfl, St.refl s.rel, by rw [List.append_nil, List.append_nil]; exact A1.E⟩
        · exact True.intro
      | some fs =>
        simp only
        rw [← Rps.len r]
        split
        · rename_i h
          obtain ⟨h1, h2, h3⟩ := h
          obtain ⟨_, e2, e3⟩ := Rps.flat (g' := fun _ => none) (ns' := []) us ds h3 r
          rw [if_pos ⟨h1, h2, undL0 e3⟩]
          refine ⟨env, M1, [], ?_, ?_, St.refl s.rel, by rw [List.append_nil, List.append_nil]; exact A1.E⟩
          · rw [e2, ← fdF_zip]
            show _ = Rs.exc c (List.map _ _) env M1
            rw [List.map_reverse]
            rfl
          · show List.all _ _ = true
            rw [List.all_reverse]
            exact flF_zip fs us h3
        · exact True.intro
  | .tri body c nm suite, cu, cu', lk, C, Z, ns, σ, M, e, env, A => by
      have q := all_s body cu cu' lk C A
      show SimS Z ns lk m M (match pS G F pc m f body cu lk e σ with
        | .exc k fs e1 σ1 z => if G.isc k = true then
            if G.sub k c = true then (endTryU nm (pS G F pc m f suite (match nm with | some _ => some (k, fs) | none => none) lk (match nm with | some i => e1.set i none | none => e1) σ1)).or z else .exc k fs e1 σ1 z
          else .bad
        | r => r) (match exS G cl body cu' env M with
        | .exc k fs e1 M1 => if G.isc k = true then
            if G.sub k c = true then endTry nm (exS G cl suite (match nm with | some _ => some (k, fs) | none => none) (match nm with | some i => e1.set i none | none => e1) M1) else .exc k fs e1 M1
          else .bad
        | r => r)
      revert q
      cases pS G F pc m f body cu lk e σ with
      | bad => exact fun _ => True.intro
      | nx e1 σ1 z =>
        rintro ⟨env1, M1, x, e2, s, re⟩
        rw [e2]
        exact ⟨env1, M1, x, rfl, s, re⟩
      | rt u σ1 z =>
        rintro ⟨d, M1, x, e2, s, re⟩
        rw [e2]
        exact ⟨d, M1, x, rfl, s, re⟩
      | exc k fs e1 σ1 z =>
        rintro ⟨env1, M1, x, e2, hf, s, re⟩
        rw [e2]
        simp only
        by_cases h1 : G.isc k = true
        · rw [if_pos h1, if_pos h1]
          by_cases h2 : G.sub k c = true
          · rw [if_pos h2, if_pos h2]
            refine SimS.or A.R s ?_
            have C2 : Cv F pc cl (match (generalizing := false) nm with | some _ => some (k, fs) | none => none) (match (generalizing := false) nm with | some _ => some (k, fdF fs) | none => none) := ⟨C.call, by cases nm <;> rfl, fun q hq => by
              cases nm with
              | none => cases hq
              | some i => cases hq; exact hf⟩
            have re2 : Re (Z ++ x) (ns ++ x) M1 (match (generalizing := false) nm with | some i => e1.set i none | none => e1) (match (generalizing := false) nm with | some i => env1.set i none | none => env1) := by
              cases nm with
              | none => exact re
              | some i => exact re.unset
            exact endTry_ok nm (all_s suite _ _ lk C2 (⟨(A.next s).hm, s.rel, re2⟩ : At m (Z ++ x) (ns ++ x) σ1 M1 _ _))
          · rw [if_neg h2, if_neg h2]
            exact ⟨env1, M1, x, rfl, hf, s, re⟩
        · rw [if_neg h1]
          exact True.intro
end
end Dv
end

section
set_option Elab.async false
set_option autoImplicit false
set_option linter.all false
set_option maxRecDepth 100000
set_option maxHeartbeats 2000000
/-! PvK: every call by values; a law's end. -/
namespace Dv
open PySem L2
section
variable {g g' : Nat → Option Ob} {ns ns' : List Nat} {b m : Nat}
mutual
/-- the old part alone -/
theorem Rp.restr (hg : ∀ n o, n < b → g n = some o → g' n = some o ∧ undL b o.its = true) (hn : ∀ k n : Nat, n < b → ns[k]? = some n → k < m ∧ ns'[k]? = some n) : ∀ (u : U) (d : D), d.und b = true → Rp g ns u d → Rp g' ns' u d ∧ u.lc m = true
  | .non, _, _, h => ⟨h, rfl⟩
  | .bl _, _, _, h => ⟨h, rfl⟩
  | .int _, _, _, h => ⟨h, rfl⟩
  | .str _, _, _, h => ⟨h, rfl⟩
  | .rol _, _, _, h => ⟨h, rfl⟩
  | .ktp _, _, _, h => ⟨h, rfl⟩
  | .tup us, d, l, h => by
    obtain ⟨ds, rfl, r⟩ := h
    obtain ⟨a, c⟩ := Rps.restr hg hn us ds (by simpa only [D.und] using l) r
    exact ⟨⟨ds, rfl, a⟩, by simpa only [U.lc] using c⟩
  | .lst us, d, l, h => by
    obtain ⟨n, ds, rfl, e1, r⟩ := h
    obtain ⟨q1, q2⟩ := hg n _ (by simpa [D.und] using l) e1
    obtain ⟨a, c⟩ := Rps.restr hg hn us ds q2 r
    exact ⟨⟨n, ds, rfl, q1, a⟩, by simpa only [U.lc] using c⟩
  | .dct ks us, d, l, h => by
    obtain ⟨n, ds, rfl, e1, e2, r⟩ := h
    obtain ⟨q1, q2⟩ := hg n _ (by simpa [D.und] using l) e1
    obtain ⟨a, c⟩ := Rps.restr hg hn us _ q2 r
    exact ⟨⟨n, ds, rfl, q1, e2, a⟩, by simpa only [U.lc] using c⟩
  | .dtt ks us, d, l, h => by
    obtain ⟨n, ds, rfl, e1, e2, r⟩ := h
    obtain ⟨q1, q2⟩ := hg n _ (by simpa [D.und] using l) e1
    obtain ⟨a, c⟩ := Rps.restr hg hn us _ q2 r
    exact ⟨⟨n, ds, rfl, q1, e2, a⟩, by simpa only [U.lc] using c⟩
  | .ins c ks us, d, l, h => by
    obtain ⟨n, ds, rfl, e1, e2, r⟩ := h
    obtain ⟨q1, q2⟩ := hg n _ (by simpa [D.und] using l) e1
    obtain ⟨a, c⟩ := Rps.restr hg hn us _ q2 r
    exact ⟨⟨n, ds, rfl, q1, e2, a⟩, by simpa only [U.lc] using c⟩
  | .cel k, d, l, h => by
    obtain ⟨n, rfl, e1⟩ := h
    obtain ⟨q1, q2⟩ := hn k n (by simpa [D.und] using l) e1
    exact ⟨⟨n, rfl, q2⟩, by simpa [U.lc] using q1⟩
theorem Rps.restr (hg : ∀ n o, n < b → g n = some o → g' n = some o ∧ undL b o.its = true) (hn : ∀ k n : Nat, n < b → ns[k]? = some n → k < m ∧ ns'[k]? = some n) : ∀ (us : List U) (ds : List D), undL b ds = true → Rps g ns us ds → Rps g' ns' us ds ∧ lcL m us = true
  | [], _, _, h => ⟨h, rfl⟩
  | u :: us, ds, l, h => by
    obtain ⟨d, r, rfl, h1, h2⟩ := h
    obtain ⟨l1, l2⟩ := Bool.and_eq_true_iff.mp (show (d.und b && undL b r) = true from l)
    obtain ⟨a1, c1⟩ := Rp.restr hg hn u d l1 h1
    obtain ⟨a2, c2⟩ := Rps.restr hg hn us r l2 h2
    exact ⟨⟨d, r, rfl, a1, a2⟩, by show (u.lc m && lcL m us) = true; rw [c1, c2]; rfl⟩
end
end
theorem lcL_get {m : Nat} : ∀ {us : List U} {k : Nat} {u : U}, lcL m us = true → us[k]? = some u → u.lc m = true
  | [], k, u, _, e => by simp at e
  | v :: us, 0, u, h, e => by
    have : v = u := by simpa using e
    subst this
    exact (Bool.and_eq_true_iff.mp (show (v.lc m && lcL m us) = true from h)).1
  | v :: us, k + 1, u, h, e => lcL_get (Bool.and_eq_true_iff.mp (show (v.lc m && lcL m us) = true from h)).2 (by simpa using e)
theorem lcL_of {m : Nat} : ∀ {us : List U}, (∀ (k : Nat) (u : U), us[k]? = some u → u.lc m = true) → lcL m us = true
  | [], _ => rfl
  | v :: us, h => by
    show (v.lc m && lcL m us) = true
    rw [h 0 v rfl, lcL_of fun k u e => h (k + 1) u (by simpa using e)]
    rfl
theorem lc_its {m : Nat} (u : U) (h : u.lc m = true) : lcL m u.its = true := by cases u <;> first | rfl | exact h
theorem its_lc {m : Nat} {u : U} (hb : u.box = true) (h : lcL m u.its = true) : u.lc m = true := by cases u <;> first | (cases hb; done) | exact h
theorem Rc.box {g : Nat → Option Ob} {ns : List Nat} {u : U} {o : Ob} (h : Rc g ns u o) : u.box = true := by cases u <;> first | rfl | exact (show False from h).elim
section
variable {Z ns x : List Nat} {M M1 : Store} {σ σ1 : Cs} {z : Bool} {F : Fl} {f : Nat}
theorem takeGet {ns : List Nat} {x : List Nat} {k n : Nat} (h : (ns ++ x)[k]? = some n) (hk : k < ns.length) : ns[k]? = some n := by rwa [List.getElem?_append_left hk] at h
/-- a call's normal end -/
theorem endV_ok (R : Rel2 Z ns σ M) (s : St Z ns [] ns.length M x σ1 z M1) {u : U} {d : D} (h : Rp (hole M1 (Z ++ x)) (ns ++ x) u d) : Sim Z ns [] ns.length M (RCal F f Z ns M) (endV (F.fre f) ns.length u σ1 z) (fin M d M1) := by
  have R1 := s.rel
  have hx : ∀ k n : Nat, (ns ++ x)[k]? = some n → ns.length ≤ k → n ∈ x := fun k n e hk => by
    rw [List.getElem?_append_right hk] at e
    exact List.mem_of_getElem? e
  have xz : ∀ n ∈ x, n ∉ Z := fun n hn hz => by
    have := s.new n hn
    have := R.lt n hz
    omega
  unfold endV
  by_cases hfre : F.fre f = true ∧ ¬ isNew ns.length u = true
  · rw [if_pos hfre]
    exact True.intro
  · rw [if_neg hfre]
    by_cases hl : lcL ns.length (σ1.take ns.length) = true
    · rw [if_pos hl]
      split
      · rename_i w hw
        have hp : Rp (hole M1 Z) ns w d := (frz_ok (Z' := Z) (ns' := ns) R1 (fun n hn => List.mem_append_left _ hn) (fun k n e hk => xz n (hx k n e hk)) (fun k n hk e => takeGet e hk) 4).1 u w d hw h
        obtain ⟨d', M', e1, l1, c1, old, hp', hcell, hnew⟩ := fin_rp R.cl R1.cl s.le R.ltn R.lt hp
        refine ⟨d', M', [], e1, ⟨l1, fun n hn hm => (old n hn).trans (s.ext n hn hm), fun n h => (by cases h), ?_, fun hz k n o' hk e eo => ?_⟩, ?_, fun hf hb => ?_⟩
        · rw [List.append_nil, List.append_nil]
          refine ⟨?_, R.nd, R.sub, fun n hn => Nat.lt_of_lt_of_le (R.lt n hn) l1, c1, fun k v ev => ?_⟩
          · have := R1.len
            rw [List.length_append] at this
            rw [List.length_take]
            omega
          · have hk : k < ns.length := by
              have := (List.getElem?_eq_some_iff.mp ev).1
              rw [List.length_take] at this
              omega
            have ev' : σ1[k]? = some v := by rwa [List.getElem?_take_of_lt hk] at ev
            obtain ⟨n, o, en, eo, rc⟩ := R1.ob k v ev'
            have en' := takeGet en hk
            have hn := R.ltn n (List.mem_of_getElem? en')
            have hlv := lcL_get hl ev
            have rc2 : Rc (hole M1 Z) ns v o := rc.with (Rps.low (m := ns.length) (fun k n hk e => takeGet e hk) _ _ (lc_its v hlv) (Rps.mono (fun n o e => by
              obtain ⟨a, b⟩ := hole_some.mp e
              exact hole_some.mpr ⟨fun z => a (List.mem_append_left _ z), b⟩) (fun _ _ e => e) _ _ rc.its))
            exact ⟨n, o, en', (old n hn).trans eo, hcell v o n hn eo rc2⟩
        · have hn := R.ltn n (List.mem_of_getElem? e)
          rw [old n hn] at eo
          exact s.keep hz k n o' hk e eo
        · rw [List.append_nil, List.append_nil]
          exact hp'
        · have hc : isNew ns.length u = true := by
            cases q : isNew ns.length u with
            | true => rfl
            | false => exact (hfre ⟨hf, by rw [q]; decide⟩).elim
          cases u <;> first | (cases hc; done) | skip
          rename_i k
          have hk : ns.length ≤ k := by simpa [isNew] using hc
          obtain ⟨n, rfl, en⟩ := h
          have := s.new n (hx k n en hk)
          exact hnew n rfl this
      · exact True.intro
    · rw [if_neg hl]
      have old : oldOk M M1 = false := by
        cases q : oldOk M M1 with
        | false => rfl
        | true =>
          exfalso
          apply hl
          have q : M.length ≤ M1.length ∧ ∀ i o, i < M.length → M1[i]? = some o → M[i]? = some o ∨ o.und M.length = true := by
            simp only [oldOk, decide_eq_true_eq] at q
            exact q
          have ou : ∀ i o, i < M.length → M1[i]? = some o → undL M.length o.its = true := fun i o hi e => by
            rcases q.2 i o hi e with h | h
            · exact R.cl i o h
            · rwa [und_its] at h
          refine lcL_of fun k v ev => ?_
          have hk : k < ns.length := by
            have := (List.getElem?_eq_some_iff.mp ev).1
            rw [List.length_take] at this
            omega
          have ev' : σ1[k]? = some v := by rwa [List.getElem?_take_of_lt hk] at ev
          obtain ⟨n, o, en, eo, rc⟩ := R1.ob k v ev'
          have hn := R.ltn n (List.mem_of_getElem? (takeGet en hk))
          refine its_lc (Rc.box rc) (Rps.restr (b := M.length) (g' := hole M1 (Z ++ x)) (ns' := ns ++ x) (m := ns.length) (fun i o hi e => ⟨e, ou i o hi (hole_some.mp e).2⟩) (fun k n hn e => ⟨?_, e⟩) _ _ (ou n o hn eo) rc.its).2
          rcases Nat.lt_or_ge k ns.length with h | h
          · exact h
          · have := s.new n (hx k n e h)
            omega
      have e1 : fin M d M1 = .ok d M1 := by
        unfold fin
        rw [if_neg (by rw [old]; decide)]
      rw [e1]
      refine ⟨d, M1, x, rfl, s, h, fun hf hb => ?_⟩
      have hc : isNew ns.length u = true := by
        cases q : isNew ns.length u with
        | true => rfl
        | false => exact (hfre ⟨hf, by rw [q]; decide⟩).elim
      cases u <;> first | (cases hc; done) | skip
      cases hb
theorem fdF_und : ∀ {fs : List (Str × U)}, flF fs = true → ((fdF fs).all fun kv => kv.2.und 0) = true
  | [], _ => rfl
  | (f, u) :: fs, h => by
    obtain ⟨h1, h2⟩ := Bool.and_eq_true_iff.mp (show (u.fl && flF fs) = true from h)
    show (u.fd.und 0 && (fdF fs).all fun kv => kv.2.und 0) = true
    rw [fdF_und h2, Bool.and_true]
    exact (und_iff 0 _).mpr fun k hk => by
      rw [(Rp.flat (g := fun _ => none) (ns := []) (g' := fun _ => none) (ns' := []) u u.fd h1 (Rp.ofl u h1)).2.2] at hk
      cases hk
theorem end_ok2 (R : Rel2 Z ns σ M) {pr : PR} {r : Rs} (s : SimS Z ns [] ns.length M pr r) : Sim Z ns [] ns.length M (RCal F f Z ns M) (endR (F.fre f) ns.length pr) (match (generalizing := false) r with
        | .nx _ M1 => fin M .non M1
        | .rt v M1 => fin M v M1
        | .exc c fs _ M1 => if oldOk M M1 = true ∧ (fs.all fun kv => kv.2.und 0) = true then .exc c fs (M1.take M.length) else .bad
        | .bad => .bad) := by
  cases pr with
  | bad => exact True.intro
  | nx e σ1 z =>
    obtain ⟨env, M1, x, rfl, t, _⟩ := s
    exact endV_ok R t (u := .non) (d := .non) rfl
  | rt u σ1 z =>
    obtain ⟨d, M1, x, rfl, t, h⟩ := s
    exact endV_ok R t h
  | exc c fs e σ1 z =>
    obtain ⟨env, M1, x, rfl, hf, t, _⟩ := s
    unfold endR
    simp only
    split
    · rename_i h
      obtain ⟨h1, hl⟩ := h
      have R1 := t.rel
      have ou : ∀ i o, i < M.length → M1[i]? = some o → M[i]? = some o ∨ o.und M.length = true := fun i o hi e => by
        by_cases hm : i ∈ ns
        · obtain ⟨k, hk, ek⟩ := List.mem_iff_getElem.mp hm
          have ek' : ns[k]? = some i := by rw [List.getElem?_eq_getElem hk, ek]
          rcases h1 with h1 | h1
          · obtain ⟨o0, e0, h0⟩ := t.keep h1 k i o hk ek' e
            right
            rw [und_its, undL_iff]
            exact fun a ha => (undL_iff _ _).mp (R.cl i o0 e0) a (h0 a ha)
          · omega
        · left
          rw [← t.ext i hi fun ⟨k, e, _⟩ => hm (List.mem_of_getElem? e)]
          exact e
      have old : oldOk M M1 = true := by
        simp only [oldOk, decide_eq_true_eq]
        exact ⟨t.le, ou⟩
      have un : ∀ i o, i < M.length → M1[i]? = some o → undL M.length o.its = true := fun i o hi e => by
        rcases ou i o hi e with h | h
        · exact R.cl i o h
        · rwa [und_its] at h
      rw [if_pos ⟨old, fdF_und hf⟩]
      have lt : (M1.take M.length).length = M.length := by rw [List.length_take]; have := t.le; omega
      have gt : ∀ i, i < M.length → (M1.take M.length)[i]? = M1[i]? := fun i hi => List.getElem?_take_of_lt hi
      refine ⟨M1.take M.length, [], rfl, hf, ⟨by rw [lt]; exact Nat.le_refl _, fun n hn hm => (gt n hn).trans (t.ext n hn hm), fun n h => (by cases h), ?_, fun _ k n o' hk e eo => ?_⟩⟩
      · rw [List.append_nil, List.append_nil]
        refine ⟨?_, R.nd, R.sub, fun n hn => by rw [lt]; exact R.lt n hn, fun n o e => ?_, fun k v ev => ?_⟩
        · have := R1.len
          rw [List.length_append] at this
          rw [List.length_take]
          omega
        · have hn := (List.getElem?_eq_some_iff.mp e).1
          rw [lt] at hn ⊢
          rw [gt n hn] at e
          exact un n o hn e
        · have hk : k < ns.length := by
            have := (List.getElem?_eq_some_iff.mp ev).1
            rw [List.length_take] at this
            omega
          have ev' : σ1[k]? = some v := by rwa [List.getElem?_take_of_lt hk] at ev
          obtain ⟨n, o, en, eo, rc⟩ := R1.ob k v ev'
          have en' := takeGet en hk
          have hn := R.ltn n (List.mem_of_getElem? en')
          refine ⟨n, o, en', (gt n hn).trans eo, rc.with (Rps.restr (b := M.length) (m := ns.length) (fun i o hi e => ?_) (fun k i hi e => ?_) _ _ (un n o hn eo) rc.its).1⟩
          · obtain ⟨a, b⟩ := hole_some.mp e
            exact ⟨hole_some.mpr ⟨fun z => a (List.mem_append_left _ z), (gt i hi).trans b⟩, un i o hi b⟩
          · have hk2 : k < ns.length := by
              rcases Nat.lt_or_ge k ns.length with h | h
              · exact h
              · rw [List.getElem?_append_right h] at e
                have := t.new i (List.mem_of_getElem? e)
                omega
            exact ⟨hk2, takeGet e hk2⟩
      · have hn := R.ltn n (List.mem_of_getElem? e)
        rw [gt n hn] at eo
        rcases h1 with h1 | h1
        · exact t.keep h1 k n o' hk e eo
        · omega
    · exact True.intro
end
theorem Re.start {Z ns : List Nat} {M : Store} {vs : List U} {ds : List D} {j : Nat} (h : Rps (hole M Z) ns vs ds) : Re Z ns M (vs.map some ++ List.replicate j none) (ds.map some ++ List.replicate j none) := by
  refine ⟨by simp [Rps.len h], fun i u e => ?_⟩
  by_cases hi : i < vs.length
  · rw [List.getElem?_append_left (by simpa using hi), List.getElem?_map] at e
    cases q : vs[i]? with
    | none => rw [q] at e; cases e
    | some v =>
      rw [q] at e
      cases e
      obtain ⟨d, e1, r⟩ := Rps.get h q
      exact ⟨d, by rw [List.getElem?_append_left (by rw [List.length_map, ← Rps.len h]; exact hi), List.getElem?_map, e1]; rfl, r⟩
  · rw [List.getElem?_append_right (by simpa using hi), List.getElem?_replicate] at e
    split at e <;> cases e
/-- every call -/
theorem call_s (G : Gl) (F : Fl) (P : Nat → Option Def) : ∀ n, CallS F (pcallN G F P n) (callN G P n)
  | 0 => fun f vs ds Z ns σ M R h => True.intro
  | n + 1 => fun f vs ds Z ns σ M R h => by
    unfold pcallN
    cases hp : P f with
    | none => exact True.intro
    | some d =>
      simp only
      split
      · rename_i l
        rw [call_eq hp (by rw [← Rps.len h]; exact l), ← Rps.len h, ← R.len]
        exact end_ok2 R (all_s d.body none none [] ⟨call_s G F P n, rfl, fun q hq => by cases hq⟩ ⟨Nat.le_refl _, R, Re.start h⟩)
      · exact True.intro
/-- a law, by values -/
theorem law_v {G : Gl} (F : Fl) {P : Nat → Option Def} {n f : Nat} {ns : List Int} {σ : Cs} {z : Bool} (h : pcallN G F P n f [.rol ns] [] = .ok (.bl true) σ z) : ∃ M, callN G P n f [.rol ns] [] = .ok (.bl true) M := by
  have q := call_s G F P n f [.rol ns] [.rol ns] [] [] [] [] ⟨rfl, List.nodup_nil, fun n h => (by cases h), fun n h => (by cases h), fun n o e => (by simp at e), fun k u e => (by simp at e)⟩ ⟨_, _, rfl, rfl, rfl⟩
  rw [h] at q
  obtain ⟨d, M, x, e, _, r, _⟩ := q
  have r : d = .bl true := r
  subst r
  exact ⟨M, e⟩
end Dv
end

section
set_option Elab.async false
set_option autoImplicit false
set_option linter.all false
set_option maxRecDepth 100000
/-! PvT: equations of the value-level evaluator (printed by pvt.py). -/
namespace Dv
open PySem L2
/-! ends -/
section
variable {α β : Type} {σ : Cs} {e : UE} {z : Bool} {c : Nat} {fs : List (Str × U)}
@[simp] theorem po_bind_ok (a : α) (f : α → Cs → PO β) : (PO.ok a σ z).bind f = (f a σ).or z := Eq.trans rfl rfl
@[simp] theorem po_bind_exc (f : α → Cs → PO β) : (PO.exc c fs σ z).bind f = .exc c fs σ z := Eq.trans rfl rfl
@[simp] theorem po_bind_bad (f : α → Cs → PO β) : (PO.bad : PO α).bind f = .bad := Eq.trans rfl rfl
@[simp] theorem po_or_false (p : PO α) : p.or false = p := PO.or_false p
@[simp] theorem po_or_ok (a : α) (y : Bool) : (PO.ok a σ z).or y = .ok a σ (y || z) := Eq.trans rfl rfl
@[simp] theorem po_or_exc (y : Bool) : (PO.exc c fs σ z : PO α).or y = .exc c fs σ (y || z) := Eq.trans rfl rfl
@[simp] theorem po_or_bad (y : Bool) : (PO.bad : PO α).or y = .bad := Eq.trans rfl rfl
@[simp] theorem po_nox_ok (a : α) : (PO.ok a σ z).nox = .ok a σ z := Eq.trans rfl rfl
@[simp] theorem po_nox_bad : (PO.bad : PO α).nox = .bad := Eq.trans rfl rfl
@[simp] theorem po_run_ok (a : α) (f : α → Cs → PR) : (PO.ok a σ z).run e f = (f a σ).or z := Eq.trans rfl rfl
@[simp] theorem po_run_exc (f : α → Cs → PR) : (PO.exc c fs σ z).run e f = .exc c fs e σ z := Eq.trans rfl rfl
@[simp] theorem po_run_bad (f : α → Cs → PR) : (PO.bad : PO α).run e f = .bad := Eq.trans rfl rfl
@[simp] theorem pr_or_false (p : PR) : p.or false = p := by cases p <;> simp [PR.or]
@[simp] theorem pr_or_nx (y : Bool) : (PR.nx e σ z).or y = .nx e σ (y || z) := Eq.trans rfl rfl
@[simp] theorem pr_or_rt (u : U) (y : Bool) : (PR.rt u σ z).or y = .rt u σ (y || z) := Eq.trans rfl rfl
@[simp] theorem pr_or_exc (y : Bool) : (PR.exc c fs e σ z).or y = .exc c fs e σ (y || z) := Eq.trans rfl rfl
@[simp] theorem pr_or_bad (y : Bool) : PR.bad.or y = .bad := Eq.trans rfl rfl
@[simp] theorem pr_then_nx (f : UE → Cs → PR) : (PR.nx e σ z).andThen f = (f e σ).or z := Eq.trans rfl rfl
@[simp] theorem pr_then_rt (u : U) (f : UE → Cs → PR) : (PR.rt u σ z).andThen f = .rt u σ z := Eq.trans rfl rfl
@[simp] theorem pr_then_exc (f : UE → Cs → PR) : (PR.exc c fs e σ z).andThen f = .exc c fs e σ z := Eq.trans rfl rfl
@[simp] theorem pr_then_bad (f : UE → Cs → PR) : PR.bad.andThen f = .bad := Eq.trans rfl rfl
@[simp] theorem po_bind_if (q : Prop) [Decidable q] (a b : PO α) (f : α → Cs → PO β) : (if q then a else b).bind f = if q then a.bind f else b.bind f := by by_cases h : q <;> simp [h]
@[simp] theorem po_run_if (q : Prop) [Decidable q] (a b : PO α) (f : α → Cs → PR) : (if q then a else b).run e f = if q then a.run e f else b.run e f := by by_cases h : q <;> simp [h]
@[simp] theorem pr_then_if (q : Prop) [Decidable q] (a b : PR) (f : UE → Cs → PR) : (if q then a else b).andThen f = if q then a.andThen f else b.andThen f := by by_cases h : q <;> simp [h]
@[simp] theorem po_or_if (q : Prop) [Decidable q] (a b : PO α) (y : Bool) : (if q then a else b).or y = if q then a.or y else b.or y := by by_cases h : q <;> simp [h]
@[simp] theorem pr_or_if (q : Prop) [Decidable q] (a b : PR) (y : Bool) : (if q then a else b).or y = if q then a.or y else b.or y := by by_cases h : q <;> simp [h]
@[simp] theorem ofU_some (a : α) : ofU (some a) σ = .ok a σ false := Eq.trans rfl rfl
@[simp] theorem ofU_none : ofU (none : Option α) σ = .bad := Eq.trans rfl rfl
@[simp] theorem ofU_if (q : Prop) [Decidable q] (a b : Option α) : ofU (if q then a else b) σ = if q then ofU a σ else ofU b σ := by by_cases h : q <;> simp [h]
end
/-! slots -/
@[simp] theorem varU_z (a : U) (e : UE) (σ : Cs) : varU 0 (some a :: e) σ = .ok a σ false := Eq.trans rfl rfl
@[simp] theorem varU_s (i : Nat) (a : Option U) (e : UE) (σ : Cs) : varU (i + 1) (a :: e) σ = varU i e σ := Eq.trans rfl rfl
@[simp] theorem wipeU_nil (e : UE) : wipeU e [] = e := Eq.trans rfl rfl
@[simp] theorem wipeU_cons (e : UE) (v : Nat) (vs : List Nat) : wipeU e (v :: vs) = (wipeU e vs).set v none := Eq.trans rfl rfl
@[simp] theorem bindTU_one (i : Nat) (d : U) (e : UE) : bindTU [i] true d e = some (e.set i (some d)) := Eq.trans rfl rfl
@[simp] theorem bindTU_tup (tg : List Nat) (ds : List U) (e : UE) : bindTU tg false (.tup ds) e = bindNU tg ds e := Eq.trans rfl rfl
@[simp] theorem bindNU_nil (e : UE) : bindNU [] [] e = some e := Eq.trans rfl rfl
@[simp] theorem bindNU_cons (i : Nat) (is : List Nat) (d : U) (ds : List U) (e : UE) : bindNU (i :: is) (d :: ds) e = bindNU is ds (e.set i (some d)) := Eq.trans rfl rfl
section
variable {G : Gl} {F : Fl} {pc : Pc} {m f : Nat} {cu : Option (Nat × List (Str × U))} {lk : List Nat} {e : UE} {σ : Cs}
@[simp] theorem pv_nil_a  : (pv G F pc m cu .nil lk).a e σ = .ok [] σ false := Eq.trans rfl rfl
@[simp] theorem pv_nil_p  : (pv G F pc m cu .nil lk).p e σ = .ok none σ false := Eq.trans rfl rfl
@[simp] theorem pv_nil_c  : (pv G F pc m cu .nil lk).c e σ = .ok true σ false := Eq.trans rfl rfl
@[simp] theorem pv_cons_a (x y : E) : (pv G F pc m cu (.cons x y) lk).a e σ = ((pv G F pc m cu x lk).e e σ).bind fun d σ1 => ((pv G F pc m cu y lk).a e σ1).bind fun ds σ2 => .ok (d :: ds) σ2 false := Eq.trans rfl rfl
@[simp] theorem pv_rng_i (x : E) : (pv G F pc m cu (.rng x) lk).i e σ = ((pv G F pc m cu x lk).a e σ).bind fun vs σ1 => rngU σ1 vs := Eq.trans rfl rfl
@[simp] theorem pv_var_e (i : Nat) : (pv G F pc m cu (.var i) lk).e e σ = varU i e σ := Eq.trans rfl rfl
@[simp] theorem pv_var_t (i : Nat) : (pv G F pc m cu (.var i) lk).t e σ = ((pv G F pc m cu (.var i) lk).e e σ).bind fun x σ1 => ofU (truU σ1 x) σ1 := Eq.trans rfl rfl
@[simp] theorem pv_var_c (i : Nat) : (pv G F pc m cu (.var i) lk).c e σ = ((pv G F pc m cu (.var i) lk).e e σ).bind fun x σ1 => ofU (truU σ1 x) σ1 := Eq.trans rfl rfl
@[simp] theorem pv_var_p (i : Nat) : (pv G F pc m cu (.var i) lk).p e σ = ((pv G F pc m cu (.var i) lk).e e σ).bind fun x σ1 => asIntU σ1 x := Eq.trans rfl rfl
@[simp] theorem pv_var_i (i : Nat) : (pv G F pc m cu (.var i) lk).i e σ = ((pv G F pc m cu (.var i) lk).e e σ).bind fun x σ1 => srcU σ1 x := Eq.trans rfl rfl
@[simp] theorem pv_non_e  : (pv G F pc m cu .non lk).e e σ = .ok .non σ false := Eq.trans rfl rfl
@[simp] theorem pv_non_t  : (pv G F pc m cu .non lk).t e σ = ((pv G F pc m cu .non lk).e e σ).bind fun x σ1 => ofU (truU σ1 x) σ1 := Eq.trans rfl rfl
@[simp] theorem pv_non_c  : (pv G F pc m cu .non lk).c e σ = ((pv G F pc m cu .non lk).e e σ).bind fun x σ1 => ofU (truU σ1 x) σ1 := Eq.trans rfl rfl
@[simp] theorem pv_non_p  : (pv G F pc m cu .non lk).p e σ = ((pv G F pc m cu .non lk).e e σ).bind fun x σ1 => asIntU σ1 x := Eq.trans rfl rfl
@[simp] theorem pv_non_i  : (pv G F pc m cu .non lk).i e σ = ((pv G F pc m cu .non lk).e e σ).bind fun x σ1 => srcU σ1 x := Eq.trans rfl rfl
@[simp] theorem pv_bl_e (b : Bool) : (pv G F pc m cu (.bl b) lk).e e σ = .ok (.bl b) σ false := Eq.trans rfl rfl
@[simp] theorem pv_bl_t (b : Bool) : (pv G F pc m cu (.bl b) lk).t e σ = ((pv G F pc m cu (.bl b) lk).e e σ).bind fun x σ1 => ofU (truU σ1 x) σ1 := Eq.trans rfl rfl
@[simp] theorem pv_bl_c (b : Bool) : (pv G F pc m cu (.bl b) lk).c e σ = ((pv G F pc m cu (.bl b) lk).e e σ).bind fun x σ1 => ofU (truU σ1 x) σ1 := Eq.trans rfl rfl
@[simp] theorem pv_bl_p (b : Bool) : (pv G F pc m cu (.bl b) lk).p e σ = ((pv G F pc m cu (.bl b) lk).e e σ).bind fun x σ1 => asIntU σ1 x := Eq.trans rfl rfl
@[simp] theorem pv_bl_i (b : Bool) : (pv G F pc m cu (.bl b) lk).i e σ = ((pv G F pc m cu (.bl b) lk).e e σ).bind fun x σ1 => srcU σ1 x := Eq.trans rfl rfl
@[simp] theorem pv_int_e (i : Int) : (pv G F pc m cu (.int i) lk).e e σ = .ok (.int i) σ false := Eq.trans rfl rfl
@[simp] theorem pv_int_t (i : Int) : (pv G F pc m cu (.int i) lk).t e σ = ((pv G F pc m cu (.int i) lk).e e σ).bind fun x σ1 => ofU (truU σ1 x) σ1 := Eq.trans rfl rfl
@[simp] theorem pv_int_c (i : Int) : (pv G F pc m cu (.int i) lk).c e σ = ((pv G F pc m cu (.int i) lk).e e σ).bind fun x σ1 => ofU (truU σ1 x) σ1 := Eq.trans rfl rfl
@[simp] theorem pv_int_p (i : Int) : (pv G F pc m cu (.int i) lk).p e σ = ((pv G F pc m cu (.int i) lk).e e σ).bind fun x σ1 => asIntU σ1 x := Eq.trans rfl rfl
@[simp] theorem pv_int_i (i : Int) : (pv G F pc m cu (.int i) lk).i e σ = ((pv G F pc m cu (.int i) lk).e e σ).bind fun x σ1 => srcU σ1 x := Eq.trans rfl rfl
@[simp] theorem pv_str_e (s : Str) : (pv G F pc m cu (.str s) lk).e e σ = .ok (.str s) σ false := Eq.trans rfl rfl
@[simp] theorem pv_str_t (s : Str) : (pv G F pc m cu (.str s) lk).t e σ = ((pv G F pc m cu (.str s) lk).e e σ).bind fun x σ1 => ofU (truU σ1 x) σ1 := Eq.trans rfl rfl
@[simp] theorem pv_str_c (s : Str) : (pv G F pc m cu (.str s) lk).c e σ = ((pv G F pc m cu (.str s) lk).e e σ).bind fun x σ1 => ofU (truU σ1 x) σ1 := Eq.trans rfl rfl
@[simp] theorem pv_str_p (s : Str) : (pv G F pc m cu (.str s) lk).p e σ = ((pv G F pc m cu (.str s) lk).e e σ).bind fun x σ1 => asIntU σ1 x := Eq.trans rfl rfl
@[simp] theorem pv_str_i (s : Str) : (pv G F pc m cu (.str s) lk).i e σ = ((pv G F pc m cu (.str s) lk).e e σ).bind fun x σ1 => srcU σ1 x := Eq.trans rfl rfl
@[simp] theorem pv_glb_e (k : Nat) : (pv G F pc m cu (.glb k) lk).e e σ = ofU ((G.con k).bind ofC) σ := Eq.trans rfl rfl
@[simp] theorem pv_glb_t (k : Nat) : (pv G F pc m cu (.glb k) lk).t e σ = ((pv G F pc m cu (.glb k) lk).e e σ).bind fun x σ1 => ofU (truU σ1 x) σ1 := Eq.trans rfl rfl
@[simp] theorem pv_glb_c (k : Nat) : (pv G F pc m cu (.glb k) lk).c e σ = ((pv G F pc m cu (.glb k) lk).e e σ).bind fun x σ1 => ofU (truU σ1 x) σ1 := Eq.trans rfl rfl
@[simp] theorem pv_glb_p (k : Nat) : (pv G F pc m cu (.glb k) lk).p e σ = ((pv G F pc m cu (.glb k) lk).e e σ).bind fun x σ1 => asIntU σ1 x := Eq.trans rfl rfl
@[simp] theorem pv_glb_i (k : Nat) : (pv G F pc m cu (.glb k) lk).i e σ = ((pv G F pc m cu (.glb k) lk).e e σ).bind fun x σ1 => srcU σ1 x := Eq.trans rfl rfl
@[simp] theorem pv_bin_e (o : Op) (a b : E) : (pv G F pc m cu (.bin o a b) lk).e e σ = ((pv G F pc m cu a lk).e e σ).bind fun x σ1 => ((pv G F pc m cu b lk).e e σ1).bind fun y σ2 => ofU (binU o σ2 x y) σ2 := Eq.trans rfl rfl
@[simp] theorem pv_bin_t (o : Op) (a b : E) : (pv G F pc m cu (.bin o a b) lk).t e σ = ((pv G F pc m cu (.bin o a b) lk).e e σ).bind fun x σ1 => ofU (truU σ1 x) σ1 := Eq.trans rfl rfl
@[simp] theorem pv_bin_c (o : Op) (a b : E) : (pv G F pc m cu (.bin o a b) lk).c e σ = ((pv G F pc m cu (.bin o a b) lk).e e σ).bind fun x σ1 => ofU (truU σ1 x) σ1 := Eq.trans rfl rfl
@[simp] theorem pv_bin_p (o : Op) (a b : E) : (pv G F pc m cu (.bin o a b) lk).p e σ = ((pv G F pc m cu (.bin o a b) lk).e e σ).bind fun x σ1 => asIntU σ1 x := Eq.trans rfl rfl
@[simp] theorem pv_bin_i (o : Op) (a b : E) : (pv G F pc m cu (.bin o a b) lk).i e σ = ((pv G F pc m cu (.bin o a b) lk).e e σ).bind fun x σ1 => srcU σ1 x := Eq.trans rfl rfl
@[simp] theorem pv_neg_e (a : E) : (pv G F pc m cu (.neg a) lk).e e σ = ((pv G F pc m cu a lk).e e σ).bind fun x σ1 => negU σ1 x := Eq.trans rfl rfl
@[simp] theorem pv_neg_t (a : E) : (pv G F pc m cu (.neg a) lk).t e σ = ((pv G F pc m cu (.neg a) lk).e e σ).bind fun x σ1 => ofU (truU σ1 x) σ1 := Eq.trans rfl rfl
@[simp] theorem pv_neg_c (a : E) : (pv G F pc m cu (.neg a) lk).c e σ = ((pv G F pc m cu (.neg a) lk).e e σ).bind fun x σ1 => ofU (truU σ1 x) σ1 := Eq.trans rfl rfl
@[simp] theorem pv_neg_p (a : E) : (pv G F pc m cu (.neg a) lk).p e σ = ((pv G F pc m cu (.neg a) lk).e e σ).bind fun x σ1 => asIntU σ1 x := Eq.trans rfl rfl
@[simp] theorem pv_neg_i (a : E) : (pv G F pc m cu (.neg a) lk).i e σ = ((pv G F pc m cu (.neg a) lk).e e σ).bind fun x σ1 => srcU σ1 x := Eq.trans rfl rfl
@[simp] theorem pv_cmp_e (o : Co) (a b : E) : (pv G F pc m cu (.cmp o a b) lk).e e σ = ((pv G F pc m cu a lk).e e σ).bind fun x σ1 => ((pv G F pc m cu b lk).e e σ1).bind fun y σ2 => (ofU (cmpU o σ2 x y) σ2).bind fun c σ3 => .ok (.bl c) σ3 false := Eq.trans rfl rfl
@[simp] theorem pv_cmp_t (o : Co) (a b : E) : (pv G F pc m cu (.cmp o a b) lk).t e σ = ((pv G F pc m cu (.cmp o a b) lk).e e σ).bind fun x σ1 => ofU (truU σ1 x) σ1 := Eq.trans rfl rfl
@[simp] theorem pv_cmp_c (o : Co) (a b : E) : (pv G F pc m cu (.cmp o a b) lk).c e σ = ((pv G F pc m cu (.cmp o a b) lk).e e σ).bind fun x σ1 => ofU (truU σ1 x) σ1 := Eq.trans rfl rfl
@[simp] theorem pv_cmp_p (o : Co) (a b : E) : (pv G F pc m cu (.cmp o a b) lk).p e σ = ((pv G F pc m cu (.cmp o a b) lk).e e σ).bind fun x σ1 => asIntU σ1 x := Eq.trans rfl rfl
@[simp] theorem pv_cmp_i (o : Co) (a b : E) : (pv G F pc m cu (.cmp o a b) lk).i e σ = ((pv G F pc m cu (.cmp o a b) lk).e e σ).bind fun x σ1 => srcU σ1 x := Eq.trans rfl rfl
@[simp] theorem pv_chn_e (o p : Co) (a b c : E) : (pv G F pc m cu (.chn o p a b c) lk).e e σ = ((pv G F pc m cu a lk).e e σ).bind fun x σ1 => ((pv G F pc m cu b lk).e e σ1).bind fun y σ2 => (ofU (cmpU o σ2 x y) σ2).bind fun k σ3 => if k = true then ((pv G F pc m cu c lk).e e σ3).bind fun z σ4 => (ofU (cmpU p σ4 y z) σ4).bind fun c σ5 => .ok (.bl c) σ5 false else .ok (.bl false) σ3 false := Eq.trans rfl rfl
@[simp] theorem pv_chn_t (o p : Co) (a b c : E) : (pv G F pc m cu (.chn o p a b c) lk).t e σ = ((pv G F pc m cu (.chn o p a b c) lk).e e σ).bind fun x σ1 => ofU (truU σ1 x) σ1 := Eq.trans rfl rfl
@[simp] theorem pv_chn_c (o p : Co) (a b c : E) : (pv G F pc m cu (.chn o p a b c) lk).c e σ = ((pv G F pc m cu (.chn o p a b c) lk).e e σ).bind fun x σ1 => ofU (truU σ1 x) σ1 := Eq.trans rfl rfl
@[simp] theorem pv_chn_p (o p : Co) (a b c : E) : (pv G F pc m cu (.chn o p a b c) lk).p e σ = ((pv G F pc m cu (.chn o p a b c) lk).e e σ).bind fun x σ1 => asIntU σ1 x := Eq.trans rfl rfl
@[simp] theorem pv_chn_i (o p : Co) (a b c : E) : (pv G F pc m cu (.chn o p a b c) lk).i e σ = ((pv G F pc m cu (.chn o p a b c) lk).e e σ).bind fun x σ1 => srcU σ1 x := Eq.trans rfl rfl
@[simp] theorem pv_tup_e (es : E) : (pv G F pc m cu (.tup es) lk).e e σ = ((pv G F pc m cu es lk).a e σ).bind fun vs σ1 => if vs.length ≤ sizeLine then .ok (.tup vs) σ1 false else .bad := Eq.trans rfl rfl
@[simp] theorem pv_tup_t (es : E) : (pv G F pc m cu (.tup es) lk).t e σ = ((pv G F pc m cu (.tup es) lk).e e σ).bind fun x σ1 => ofU (truU σ1 x) σ1 := Eq.trans rfl rfl
@[simp] theorem pv_tup_c (es : E) : (pv G F pc m cu (.tup es) lk).c e σ = ((pv G F pc m cu (.tup es) lk).e e σ).bind fun x σ1 => ofU (truU σ1 x) σ1 := Eq.trans rfl rfl
@[simp] theorem pv_tup_p (es : E) : (pv G F pc m cu (.tup es) lk).p e σ = ((pv G F pc m cu (.tup es) lk).e e σ).bind fun x σ1 => asIntU σ1 x := Eq.trans rfl rfl
@[simp] theorem pv_tup_i (es : E) : (pv G F pc m cu (.tup es) lk).i e σ = ((pv G F pc m cu (.tup es) lk).e e σ).bind fun x σ1 => srcU σ1 x := Eq.trans rfl rfl
@[simp] theorem pv_lst_e (es : E) : (pv G F pc m cu (.lst es) lk).e e σ = ((pv G F pc m cu es lk).a e σ).bind fun vs σ1 => if vs.length ≤ sizeLine then .ok (.lst vs) σ1 false else .bad := Eq.trans rfl rfl
@[simp] theorem pv_lst_t (es : E) : (pv G F pc m cu (.lst es) lk).t e σ = ((pv G F pc m cu (.lst es) lk).e e σ).bind fun x σ1 => ofU (truU σ1 x) σ1 := Eq.trans rfl rfl
@[simp] theorem pv_lst_c (es : E) : (pv G F pc m cu (.lst es) lk).c e σ = ((pv G F pc m cu (.lst es) lk).e e σ).bind fun x σ1 => ofU (truU σ1 x) σ1 := Eq.trans rfl rfl
@[simp] theorem pv_lst_p (es : E) : (pv G F pc m cu (.lst es) lk).p e σ = ((pv G F pc m cu (.lst es) lk).e e σ).bind fun x σ1 => asIntU σ1 x := Eq.trans rfl rfl
@[simp] theorem pv_lst_i (es : E) : (pv G F pc m cu (.lst es) lk).i e σ = ((pv G F pc m cu (.lst es) lk).e e σ).bind fun x σ1 => srcU σ1 x := Eq.trans rfl rfl
@[simp] theorem pv_dnl_e (tk : Bool) : (pv G F pc m cu (.dnl tk) lk).e e σ = if tk = true then .ok (.dtt [] []) σ false else .ok (.dct [] []) σ false := Eq.trans rfl rfl
@[simp] theorem pv_dnl_t (tk : Bool) : (pv G F pc m cu (.dnl tk) lk).t e σ = ((pv G F pc m cu (.dnl tk) lk).e e σ).bind fun x σ1 => ofU (truU σ1 x) σ1 := Eq.trans rfl rfl
@[simp] theorem pv_dnl_c (tk : Bool) : (pv G F pc m cu (.dnl tk) lk).c e σ = ((pv G F pc m cu (.dnl tk) lk).e e σ).bind fun x σ1 => ofU (truU σ1 x) σ1 := Eq.trans rfl rfl
@[simp] theorem pv_dnl_p (tk : Bool) : (pv G F pc m cu (.dnl tk) lk).p e σ = ((pv G F pc m cu (.dnl tk) lk).e e σ).bind fun x σ1 => asIntU σ1 x := Eq.trans rfl rfl
@[simp] theorem pv_dnl_i (tk : Bool) : (pv G F pc m cu (.dnl tk) lk).i e σ = ((pv G F pc m cu (.dnl tk) lk).e e σ).bind fun x σ1 => srcU σ1 x := Eq.trans rfl rfl
@[simp] theorem pv_dsp_e (es : E) : (pv G F pc m cu (.dsp es) lk).e e σ = ((pv G F pc m cu es lk).a e σ).bind fun vs σ1 => dspE' vs σ1 := Eq.trans rfl rfl
@[simp] theorem pv_dsp_t (es : E) : (pv G F pc m cu (.dsp es) lk).t e σ = ((pv G F pc m cu (.dsp es) lk).e e σ).bind fun x σ1 => ofU (truU σ1 x) σ1 := Eq.trans rfl rfl
@[simp] theorem pv_dsp_c (es : E) : (pv G F pc m cu (.dsp es) lk).c e σ = ((pv G F pc m cu (.dsp es) lk).e e σ).bind fun x σ1 => ofU (truU σ1 x) σ1 := Eq.trans rfl rfl
@[simp] theorem pv_dsp_p (es : E) : (pv G F pc m cu (.dsp es) lk).p e σ = ((pv G F pc m cu (.dsp es) lk).e e σ).bind fun x σ1 => asIntU σ1 x := Eq.trans rfl rfl
@[simp] theorem pv_dsp_i (es : E) : (pv G F pc m cu (.dsp es) lk).i e σ = ((pv G F pc m cu (.dsp es) lk).e e σ).bind fun x σ1 => srcU σ1 x := Eq.trans rfl rfl
@[simp] theorem pv_idx_e (a i : E) : (pv G F pc m cu (.idx a i) lk).e e σ = ((pv G F pc m cu a lk).e e σ).bind fun x σ1 => ((pv G F pc m cu i lk).e e σ1).bind fun y σ2 => ofU (idxU σ2 x y) σ2 := Eq.trans rfl rfl
@[simp] theorem pv_idx_t (a i : E) : (pv G F pc m cu (.idx a i) lk).t e σ = ((pv G F pc m cu (.idx a i) lk).e e σ).bind fun x σ1 => ofU (truU σ1 x) σ1 := Eq.trans rfl rfl
@[simp] theorem pv_idx_c (a i : E) : (pv G F pc m cu (.idx a i) lk).c e σ = ((pv G F pc m cu (.idx a i) lk).e e σ).bind fun x σ1 => ofU (truU σ1 x) σ1 := Eq.trans rfl rfl
@[simp] theorem pv_idx_p (a i : E) : (pv G F pc m cu (.idx a i) lk).p e σ = ((pv G F pc m cu (.idx a i) lk).e e σ).bind fun x σ1 => asIntU σ1 x := Eq.trans rfl rfl
@[simp] theorem pv_idx_i (a i : E) : (pv G F pc m cu (.idx a i) lk).i e σ = ((pv G F pc m cu (.idx a i) lk).e e σ).bind fun x σ1 => srcU σ1 x := Eq.trans rfl rfl
@[simp] theorem pv_slc_e (a lo hi : E) : (pv G F pc m cu (.slc a lo hi) lk).e e σ = ((pv G F pc m cu a lk).e e σ).bind fun x σ1 => ((pv G F pc m cu lo lk).p e σ1).bind fun l σ2 => ((pv G F pc m cu hi lk).p e σ2).bind fun h σ3 => ofU (slcU σ3 x l h) σ3 := Eq.trans rfl rfl
@[simp] theorem pv_slc_t (a lo hi : E) : (pv G F pc m cu (.slc a lo hi) lk).t e σ = ((pv G F pc m cu (.slc a lo hi) lk).e e σ).bind fun x σ1 => ofU (truU σ1 x) σ1 := Eq.trans rfl rfl
@[simp] theorem pv_slc_c (a lo hi : E) : (pv G F pc m cu (.slc a lo hi) lk).c e σ = ((pv G F pc m cu (.slc a lo hi) lk).e e σ).bind fun x σ1 => ofU (truU σ1 x) σ1 := Eq.trans rfl rfl
@[simp] theorem pv_slc_p (a lo hi : E) : (pv G F pc m cu (.slc a lo hi) lk).p e σ = ((pv G F pc m cu (.slc a lo hi) lk).e e σ).bind fun x σ1 => asIntU σ1 x := Eq.trans rfl rfl
@[simp] theorem pv_slc_i (a lo hi : E) : (pv G F pc m cu (.slc a lo hi) lk).i e σ = ((pv G F pc m cu (.slc a lo hi) lk).e e σ).bind fun x σ1 => srcU σ1 x := Eq.trans rfl rfl
@[simp] theorem pv_rev_e (a : E) : (pv G F pc m cu (.rev a) lk).e e σ = ((pv G F pc m cu a lk).e e σ).bind fun x σ1 => revU σ1 x := Eq.trans rfl rfl
@[simp] theorem pv_rev_t (a : E) : (pv G F pc m cu (.rev a) lk).t e σ = ((pv G F pc m cu (.rev a) lk).e e σ).bind fun x σ1 => ofU (truU σ1 x) σ1 := Eq.trans rfl rfl
@[simp] theorem pv_rev_c (a : E) : (pv G F pc m cu (.rev a) lk).c e σ = ((pv G F pc m cu (.rev a) lk).e e σ).bind fun x σ1 => ofU (truU σ1 x) σ1 := Eq.trans rfl rfl
@[simp] theorem pv_rev_p (a : E) : (pv G F pc m cu (.rev a) lk).p e σ = ((pv G F pc m cu (.rev a) lk).e e σ).bind fun x σ1 => asIntU σ1 x := Eq.trans rfl rfl
@[simp] theorem pv_rev_i (a : E) : (pv G F pc m cu (.rev a) lk).i e σ = ((pv G F pc m cu (.rev a) lk).e e σ).bind fun x σ1 => srcU σ1 x := Eq.trans rfl rfl
@[simp] theorem pv_fld_e (a : E) (g : Str) : (pv G F pc m cu (.fld a g) lk).e e σ = ((pv G F pc m cu a lk).e e σ).bind fun x σ1 => fldU G σ1 x g := Eq.trans rfl rfl
@[simp] theorem pv_fld_t (a : E) (g : Str) : (pv G F pc m cu (.fld a g) lk).t e σ = ((pv G F pc m cu (.fld a g) lk).e e σ).bind fun x σ1 => ofU (truU σ1 x) σ1 := Eq.trans rfl rfl
@[simp] theorem pv_fld_c (a : E) (g : Str) : (pv G F pc m cu (.fld a g) lk).c e σ = ((pv G F pc m cu (.fld a g) lk).e e σ).bind fun x σ1 => ofU (truU σ1 x) σ1 := Eq.trans rfl rfl
@[simp] theorem pv_fld_p (a : E) (g : Str) : (pv G F pc m cu (.fld a g) lk).p e σ = ((pv G F pc m cu (.fld a g) lk).e e σ).bind fun x σ1 => asIntU σ1 x := Eq.trans rfl rfl
@[simp] theorem pv_fld_i (a : E) (g : Str) : (pv G F pc m cu (.fld a g) lk).i e σ = ((pv G F pc m cu (.fld a g) lk).e e σ).bind fun x σ1 => srcU σ1 x := Eq.trans rfl rfl
@[simp] theorem pv_cal_e (g : Nat) (es : E) : (pv G F pc m cu (.cal g es) lk).e e σ = ((pv G F pc m cu es lk).a e σ).bind fun vs σ1 => calU F pc lk g vs σ1 := Eq.trans rfl rfl
@[simp] theorem pv_cal_t (g : Nat) (es : E) : (pv G F pc m cu (.cal g es) lk).t e σ = ((pv G F pc m cu (.cal g es) lk).e e σ).bind fun x σ1 => ofU (truU σ1 x) σ1 := Eq.trans rfl rfl
@[simp] theorem pv_cal_c (g : Nat) (es : E) : (pv G F pc m cu (.cal g es) lk).c e σ = ((pv G F pc m cu (.cal g es) lk).e e σ).bind fun x σ1 => ofU (truU σ1 x) σ1 := Eq.trans rfl rfl
@[simp] theorem pv_cal_p (g : Nat) (es : E) : (pv G F pc m cu (.cal g es) lk).p e σ = ((pv G F pc m cu (.cal g es) lk).e e σ).bind fun x σ1 => asIntU σ1 x := Eq.trans rfl rfl
@[simp] theorem pv_cal_i (g : Nat) (es : E) : (pv G F pc m cu (.cal g es) lk).i e σ = ((pv G F pc m cu (.cal g es) lk).e e σ).bind fun x σ1 => srcU σ1 x := Eq.trans rfl rfl
@[simp] theorem pv_mak_e (c : Nat) (es : E) : (pv G F pc m cu (.mak c es) lk).e e σ = ((pv G F pc m cu es lk).a e σ).bind fun vs σ1 => makU G pc lk c vs σ1 := Eq.trans rfl rfl
@[simp] theorem pv_mak_t (c : Nat) (es : E) : (pv G F pc m cu (.mak c es) lk).t e σ = ((pv G F pc m cu (.mak c es) lk).e e σ).bind fun x σ1 => ofU (truU σ1 x) σ1 := Eq.trans rfl rfl
@[simp] theorem pv_mak_c (c : Nat) (es : E) : (pv G F pc m cu (.mak c es) lk).c e σ = ((pv G F pc m cu (.mak c es) lk).e e σ).bind fun x σ1 => ofU (truU σ1 x) σ1 := Eq.trans rfl rfl
@[simp] theorem pv_mak_p (c : Nat) (es : E) : (pv G F pc m cu (.mak c es) lk).p e σ = ((pv G F pc m cu (.mak c es) lk).e e σ).bind fun x σ1 => asIntU σ1 x := Eq.trans rfl rfl
@[simp] theorem pv_mak_i (c : Nat) (es : E) : (pv G F pc m cu (.mak c es) lk).i e σ = ((pv G F pc m cu (.mak c es) lk).e e σ).bind fun x σ1 => srcU σ1 x := Eq.trans rfl rfl
@[simp] theorem pv_mth_e (o : E) (i : Nat) (es : E) : (pv G F pc m cu (.mth o i es) lk).e e σ = ((pv G F pc m cu o lk).e e σ).bind fun x σ1 => match mthU G σ1 x i with | some g => ((pv G F pc m cu es lk).a e σ1).bind fun vs σ2 => calU F pc lk g (x :: vs) σ2 | none => .bad := Eq.trans rfl rfl
@[simp] theorem pv_mth_t (o : E) (i : Nat) (es : E) : (pv G F pc m cu (.mth o i es) lk).t e σ = ((pv G F pc m cu (.mth o i es) lk).e e σ).bind fun x σ1 => ofU (truU σ1 x) σ1 := Eq.trans rfl rfl
@[simp] theorem pv_mth_c (o : E) (i : Nat) (es : E) : (pv G F pc m cu (.mth o i es) lk).c e σ = ((pv G F pc m cu (.mth o i es) lk).e e σ).bind fun x σ1 => ofU (truU σ1 x) σ1 := Eq.trans rfl rfl
@[simp] theorem pv_mth_p (o : E) (i : Nat) (es : E) : (pv G F pc m cu (.mth o i es) lk).p e σ = ((pv G F pc m cu (.mth o i es) lk).e e σ).bind fun x σ1 => asIntU σ1 x := Eq.trans rfl rfl
@[simp] theorem pv_mth_i (o : E) (i : Nat) (es : E) : (pv G F pc m cu (.mth o i es) lk).i e σ = ((pv G F pc m cu (.mth o i es) lk).e e σ).bind fun x σ1 => srcU σ1 x := Eq.trans rfl rfl
@[simp] theorem pv_bi_e (b : Bi) (es : E) : (pv G F pc m cu (.bi b es) lk).e e σ = ((pv G F pc m cu es lk).a e σ).bind fun vs σ1 => ofU (biU b σ1 vs) σ1 := Eq.trans rfl rfl
@[simp] theorem pv_bi_t (b : Bi) (es : E) : (pv G F pc m cu (.bi b es) lk).t e σ = ((pv G F pc m cu (.bi b es) lk).e e σ).bind fun x σ1 => ofU (truU σ1 x) σ1 := Eq.trans rfl rfl
@[simp] theorem pv_bi_c (b : Bi) (es : E) : (pv G F pc m cu (.bi b es) lk).c e σ = ((pv G F pc m cu (.bi b es) lk).e e σ).bind fun x σ1 => ofU (truU σ1 x) σ1 := Eq.trans rfl rfl
@[simp] theorem pv_bi_p (b : Bi) (es : E) : (pv G F pc m cu (.bi b es) lk).p e σ = ((pv G F pc m cu (.bi b es) lk).e e σ).bind fun x σ1 => asIntU σ1 x := Eq.trans rfl rfl
@[simp] theorem pv_bi_i (b : Bi) (es : E) : (pv G F pc m cu (.bi b es) lk).i e σ = ((pv G F pc m cu (.bi b es) lk).e e σ).bind fun x σ1 => srcU σ1 x := Eq.trans rfl rfl
@[simp] theorem pv_bm_e (b : Bm) (o es : E) : (pv G F pc m cu (.bm b o es) lk).e e σ = ((pv G F pc m cu o lk).e e σ).bind fun x σ1 => if bmTyU b σ1 x = true then ((pv G F pc m cu es lk).a e σ1).bind fun vs σ2 => bmU lk m b σ2 x vs else .bad := Eq.trans rfl rfl
@[simp] theorem pv_bm_t (b : Bm) (o es : E) : (pv G F pc m cu (.bm b o es) lk).t e σ = ((pv G F pc m cu (.bm b o es) lk).e e σ).bind fun x σ1 => ofU (truU σ1 x) σ1 := Eq.trans rfl rfl
@[simp] theorem pv_bm_c (b : Bm) (o es : E) : (pv G F pc m cu (.bm b o es) lk).c e σ = ((pv G F pc m cu (.bm b o es) lk).e e σ).bind fun x σ1 => ofU (truU σ1 x) σ1 := Eq.trans rfl rfl
@[simp] theorem pv_bm_p (b : Bm) (o es : E) : (pv G F pc m cu (.bm b o es) lk).p e σ = ((pv G F pc m cu (.bm b o es) lk).e e σ).bind fun x σ1 => asIntU σ1 x := Eq.trans rfl rfl
@[simp] theorem pv_bm_i (b : Bm) (o es : E) : (pv G F pc m cu (.bm b o es) lk).i e σ = ((pv G F pc m cu (.bm b o es) lk).e e σ).bind fun x σ1 => srcU σ1 x := Eq.trans rfl rfl
@[simp] theorem pv_isi_e (a : E) (t : Ty) : (pv G F pc m cu (.isi a t) lk).e e σ = ((pv G F pc m cu a lk).e e σ).bind fun x σ1 => (ofU (isiU σ1 x t) σ1).bind fun c σ2 => .ok (.bl c) σ2 false := Eq.trans rfl rfl
@[simp] theorem pv_isi_t (a : E) (t : Ty) : (pv G F pc m cu (.isi a t) lk).t e σ = ((pv G F pc m cu (.isi a t) lk).e e σ).bind fun x σ1 => ofU (truU σ1 x) σ1 := Eq.trans rfl rfl
@[simp] theorem pv_isi_c (a : E) (t : Ty) : (pv G F pc m cu (.isi a t) lk).c e σ = ((pv G F pc m cu (.isi a t) lk).e e σ).bind fun x σ1 => ofU (truU σ1 x) σ1 := Eq.trans rfl rfl
@[simp] theorem pv_isi_p (a : E) (t : Ty) : (pv G F pc m cu (.isi a t) lk).p e σ = ((pv G F pc m cu (.isi a t) lk).e e σ).bind fun x σ1 => asIntU σ1 x := Eq.trans rfl rfl
@[simp] theorem pv_isi_i (a : E) (t : Ty) : (pv G F pc m cu (.isi a t) lk).i e σ = ((pv G F pc m cu (.isi a t) lk).e e σ).bind fun x σ1 => srcU σ1 x := Eq.trans rfl rfl
@[simp] theorem pv_isx_e (c : Nat) : (pv G F pc m cu (.isx c) lk).e e σ = isxU G cu c σ := Eq.trans rfl rfl
@[simp] theorem pv_isx_t (c : Nat) : (pv G F pc m cu (.isx c) lk).t e σ = ((pv G F pc m cu (.isx c) lk).e e σ).bind fun x σ1 => ofU (truU σ1 x) σ1 := Eq.trans rfl rfl
@[simp] theorem pv_isx_c (c : Nat) : (pv G F pc m cu (.isx c) lk).c e σ = ((pv G F pc m cu (.isx c) lk).e e σ).bind fun x σ1 => ofU (truU σ1 x) σ1 := Eq.trans rfl rfl
@[simp] theorem pv_isx_p (c : Nat) : (pv G F pc m cu (.isx c) lk).p e σ = ((pv G F pc m cu (.isx c) lk).e e σ).bind fun x σ1 => asIntU σ1 x := Eq.trans rfl rfl
@[simp] theorem pv_isx_i (c : Nat) : (pv G F pc m cu (.isx c) lk).i e σ = ((pv G F pc m cu (.isx c) lk).e e σ).bind fun x σ1 => srcU σ1 x := Eq.trans rfl rfl
@[simp] theorem pv_xfd_e (g : Str) : (pv G F pc m cu (.xfd g) lk).e e σ = xfdU G cu g σ := Eq.trans rfl rfl
@[simp] theorem pv_xfd_t (g : Str) : (pv G F pc m cu (.xfd g) lk).t e σ = ((pv G F pc m cu (.xfd g) lk).e e σ).bind fun x σ1 => ofU (truU σ1 x) σ1 := Eq.trans rfl rfl
@[simp] theorem pv_xfd_c (g : Str) : (pv G F pc m cu (.xfd g) lk).c e σ = ((pv G F pc m cu (.xfd g) lk).e e σ).bind fun x σ1 => ofU (truU σ1 x) σ1 := Eq.trans rfl rfl
@[simp] theorem pv_xfd_p (g : Str) : (pv G F pc m cu (.xfd g) lk).p e σ = ((pv G F pc m cu (.xfd g) lk).e e σ).bind fun x σ1 => asIntU σ1 x := Eq.trans rfl rfl
@[simp] theorem pv_xfd_i (g : Str) : (pv G F pc m cu (.xfd g) lk).i e σ = ((pv G F pc m cu (.xfd g) lk).e e σ).bind fun x σ1 => srcU σ1 x := Eq.trans rfl rfl
@[simp] theorem pv_cmp1_e (elt : E) (tg : List Nat) (sole : Bool) (own : List Nat) (it cond : E) : (pv G F pc m cu (.cmp1 elt tg sole own it cond) lk).e e σ = ((pv G F pc m cu it lk).i e σ).bind fun s σ1 => (compU tg sole (wipeU e own) (fun e' σ' => (pv G F pc m cu cond (s.lock lk)).c e' σ') (fun e' σ' => (pv G F pc m cu elt (s.lock lk)).e e' σ') s.xs [] σ1).bind fun xs σ2 => if xs.length ≤ sizeLine then .ok (.lst xs) σ2 false else .bad := Eq.trans rfl rfl
@[simp] theorem pv_cmp1_t (elt : E) (tg : List Nat) (sole : Bool) (own : List Nat) (it cond : E) : (pv G F pc m cu (.cmp1 elt tg sole own it cond) lk).t e σ = ((pv G F pc m cu (.cmp1 elt tg sole own it cond) lk).e e σ).bind fun x σ1 => ofU (truU σ1 x) σ1 := Eq.trans rfl rfl
@[simp] theorem pv_cmp1_c (elt : E) (tg : List Nat) (sole : Bool) (own : List Nat) (it cond : E) : (pv G F pc m cu (.cmp1 elt tg sole own it cond) lk).c e σ = ((pv G F pc m cu (.cmp1 elt tg sole own it cond) lk).e e σ).bind fun x σ1 => ofU (truU σ1 x) σ1 := Eq.trans rfl rfl
@[simp] theorem pv_cmp1_p (elt : E) (tg : List Nat) (sole : Bool) (own : List Nat) (it cond : E) : (pv G F pc m cu (.cmp1 elt tg sole own it cond) lk).p e σ = ((pv G F pc m cu (.cmp1 elt tg sole own it cond) lk).e e σ).bind fun x σ1 => asIntU σ1 x := Eq.trans rfl rfl
@[simp] theorem pv_cmp1_i (elt : E) (tg : List Nat) (sole : Bool) (own : List Nat) (it cond : E) : (pv G F pc m cu (.cmp1 elt tg sole own it cond) lk).i e σ = ((pv G F pc m cu (.cmp1 elt tg sole own it cond) lk).e e σ).bind fun x σ1 => srcU σ1 x := Eq.trans rfl rfl
@[simp] theorem pv_and_e (a b : E) : (pv G F pc m cu (.and a b) lk).e e σ = ((pv G F pc m cu a lk).e e σ).bind fun x σ1 => andU x ((pv G F pc m cu b lk).e e) σ1 := Eq.trans rfl rfl
@[simp] theorem pv_and_t (a b : E) : (pv G F pc m cu (.and a b) lk).t e σ = ((pv G F pc m cu a lk).t e σ).bind fun x σ1 => if x = true then (pv G F pc m cu b lk).t e σ1 else .ok false σ1 false := Eq.trans rfl rfl
@[simp] theorem pv_and_c (a b : E) : (pv G F pc m cu (.and a b) lk).c e σ = ((pv G F pc m cu a lk).t e σ).bind fun x σ1 => if x = true then (pv G F pc m cu b lk).t e σ1 else .ok false σ1 false := Eq.trans rfl rfl
@[simp] theorem pv_or_e (a b : E) : (pv G F pc m cu (.or a b) lk).e e σ = ((pv G F pc m cu a lk).e e σ).bind fun x σ1 => orU x ((pv G F pc m cu b lk).e e) σ1 := Eq.trans rfl rfl
@[simp] theorem pv_or_t (a b : E) : (pv G F pc m cu (.or a b) lk).t e σ = ((pv G F pc m cu a lk).t e σ).bind fun x σ1 => if x = true then .ok true σ1 false else (pv G F pc m cu b lk).t e σ1 := Eq.trans rfl rfl
@[simp] theorem pv_or_c (a b : E) : (pv G F pc m cu (.or a b) lk).c e σ = ((pv G F pc m cu a lk).t e σ).bind fun x σ1 => if x = true then .ok true σ1 false else (pv G F pc m cu b lk).t e σ1 := Eq.trans rfl rfl
@[simp] theorem pv_not_e (a : E) : (pv G F pc m cu (.not a) lk).e e σ = ((pv G F pc m cu a lk).e e σ).bind fun x σ1 => (ofU (truU σ1 x) σ1).bind fun b σ2 => .ok (.bl (!b)) σ2 false := Eq.trans rfl rfl
@[simp] theorem pv_not_t (a : E) : (pv G F pc m cu (.not a) lk).t e σ = ((pv G F pc m cu a lk).t e σ).bind fun x σ1 => .ok (!x) σ1 false := Eq.trans rfl rfl
@[simp] theorem pv_not_c (a : E) : (pv G F pc m cu (.not a) lk).c e σ = ((pv G F pc m cu a lk).t e σ).bind fun x σ1 => .ok (!x) σ1 false := Eq.trans rfl rfl
@[simp] theorem pv_ife_e (c a b : E) : (pv G F pc m cu (.ife c a b) lk).e e σ = ((pv G F pc m cu c lk).t e σ).bind fun t σ1 => if t = true then (pv G F pc m cu a lk).e e σ1 else (pv G F pc m cu b lk).e e σ1 := Eq.trans rfl rfl
@[simp] theorem pv_ife_t (c a b : E) : (pv G F pc m cu (.ife c a b) lk).t e σ = ((pv G F pc m cu c lk).t e σ).bind fun t σ1 => if t = true then (pv G F pc m cu a lk).t e σ1 else (pv G F pc m cu b lk).t e σ1 := Eq.trans rfl rfl
@[simp] theorem pv_ife_c (c a b : E) : (pv G F pc m cu (.ife c a b) lk).c e σ = ((pv G F pc m cu c lk).t e σ).bind fun t σ1 => if t = true then (pv G F pc m cu a lk).t e σ1 else (pv G F pc m cu b lk).t e σ1 := Eq.trans rfl rfl
/-! statements -/
@[simp] theorem ps_nil : pS G F pc m f .nil cu lk e σ = .nx e σ false := Eq.trans rfl rfl
theorem ps_cons (x y : S) : pS G F pc m f (.cons x y) cu lk e σ = (pS G F pc m f x cu lk e σ).andThen (pS G F pc m f y cu lk) := Eq.trans rfl rfl
@[simp] theorem ps_asg (t : T) (x : E) : pS G F pc m f (.asg t x) cu lk e σ = ((pv G F pc m cu x lk).e e σ).run e fun v σ1 => asgU G F pc m f cu lk t (freshE F x) v e σ1 := Eq.trans rfl rfl
@[simp] theorem ps_ex (x : E) : pS G F pc m f (.ex x) cu lk e σ = ((pv G F pc m cu x lk).e e σ).run e fun _ σ1 => .nx e σ1 false := Eq.trans rfl rfl
@[simp] theorem ps_ret (x : E) : pS G F pc m f (.ret x) cu lk e σ = ((pv G F pc m cu x lk).e e σ).run e fun v σ1 => .rt v σ1 false := Eq.trans rfl rfl
@[simp] theorem ps_retN : pS G F pc m f .retN cu lk e σ = .rt .non σ false := Eq.trans rfl rfl
@[simp] theorem ps_pas : pS G F pc m f .pas cu lk e σ = .nx e σ false := Eq.trans rfl rfl
@[simp] theorem ps_ite (c : E) (a b : S) : pS G F pc m f (.ite c a b) cu lk e σ = ((pv G F pc m cu c lk).t e σ).run e fun t σ1 => if t = true then pS G F pc m f a cu lk e σ1 else pS G F pc m f b cu lk e σ1 := Eq.trans rfl rfl
@[simp] theorem ps_for (tg : List Nat) (sole : Bool) (it : E) (body : S) : pS G F pc m f (.for_ tg sole it body) cu lk e σ = ((pv G F pc m cu it lk).i e σ).run e fun s σ1 => forU tg sole (pS G F pc m f body cu (s.lock lk)) s.xs e σ1 := Eq.trans rfl rfl
@[simp] theorem ps_whl (c : E) (body : S) : pS G F pc m f (.whl c body) cu lk e σ = whlU ((pv G F pc m cu c lk).t) (pS G F pc m f body cu lk) 100000 e σ := Eq.trans rfl rfl
@[simp] theorem ps_rai (c : Nat) (es : E) : pS G F pc m f (.rai c es) cu lk e σ = ((pv G F pc m cu es lk).a e σ).run e fun vs σ1 => raiU G c vs e σ1 := Eq.trans rfl rfl
@[simp] theorem asgU_nm (i : Nat) (fr : Bool) (v : U) : asgU G F pc m f cu lk (.nm i) fr v e σ = match thaw (F.O f i) fr v σ with
    | some (u, σ') => .nx (e.set i (some u)) σ' false
    | none => .bad := Eq.trans rfl rfl
@[simp] theorem asgU_tp (is : List Nat) (fr : Bool) (ds : List U) : asgU G F pc m f cu lk (.tp is) fr (.tup ds) e σ = match bindNU is ds e with
    | some e' => .nx e' σ false
    | none => .bad := Eq.trans rfl rfl
@[simp] theorem asgU_sub (o i : E) (fr : Bool) (v : U) : asgU G F pc m f cu lk (.sub o i) fr v e σ = ((pv G F pc m cu o lk).e e σ).run e fun x σ1 => ((pv G F pc m cu i lk).e e σ1).run e fun y σ2 => (setU lk m σ2 x y v).run e fun _ σ3 => .nx e σ3 false := Eq.trans rfl rfl
@[simp] theorem asgU_att (o : E) (g : Str) (fr : Bool) (v : U) : asgU G F pc m f cu lk (.att o g) fr v e σ = ((pv G F pc m cu o lk).e e σ).run e fun x σ1 => (attU G lk m F.A (fr && match o with | .var _ => true | _ => false) σ1 x g v).run e fun _ σ2 => .nx e σ2 false := Eq.trans rfl rfl
@[simp] theorem thaw_no (fr : Bool) (u : U) : thaw false fr u σ = some (u, σ) := Eq.trans rfl rfl
@[simp] theorem thaw_lst (us : List U) : thaw true true (.lst us) σ = some (.cel σ.length, σ ++ [.lst us]) := Eq.trans rfl rfl
@[simp] theorem thaw_dct (ks : List Key) (us : List U) : thaw true true (.dct ks us) σ = some (.cel σ.length, σ ++ [.dct ks us]) := Eq.trans rfl rfl
@[simp] theorem thaw_dtt (ks : List (List Key)) (us : List U) : thaw true true (.dtt ks us) σ = some (.cel σ.length, σ ++ [.dtt ks us]) := Eq.trans rfl rfl
theorem forU_nil (tg : List Nat) (sole : Bool) (body : UE → Cs → PR) : forU tg sole body [] e σ = .nx e σ false := Eq.trans rfl rfl
theorem forU_cons (tg : List Nat) (sole : Bool) (body : UE → Cs → PR) (x : U) (r : List U) : forU tg sole body (x :: r) e σ = match bindTU tg sole x e with
      | some e' => (body e' σ).andThen (forU tg sole body r)
      | none => .bad := Eq.trans rfl rfl
end
/-! operators -/
section
variable {σ : Cs}
@[simp] theorem dref_non : dref σ .non = some .non := Eq.trans rfl rfl
@[simp] theorem dref_bl (b : Bool) : dref σ (.bl b) = some (.bl b) := Eq.trans rfl rfl
@[simp] theorem dref_int (i : Int) : dref σ (.int i) = some (.int i) := Eq.trans rfl rfl
@[simp] theorem dref_str (s : Str) : dref σ (.str s) = some (.str s) := Eq.trans rfl rfl
@[simp] theorem dref_tup' (us : List U) : dref σ (.tup us) = some (.tup us) := Eq.trans rfl rfl
@[simp] theorem dref_rol (us : List Int) : dref σ (.rol us) = some (.rol us) := Eq.trans rfl rfl
@[simp] theorem dref_ktp (us : List Str) : dref σ (.ktp us) = some (.ktp us) := Eq.trans rfl rfl
@[simp] theorem dref_lst' (us : List U) : dref σ (.lst us) = some (.lst us) := Eq.trans rfl rfl
@[simp] theorem dref_dct' (ks : List Key) (us : List U) : dref σ (.dct ks us) = some (.dct ks us) := Eq.trans rfl rfl
@[simp] theorem dref_dtt' (ks : List (List Key)) (us : List U) : dref σ (.dtt ks us) = some (.dtt ks us) := Eq.trans rfl rfl
@[simp] theorem dref_ins' (c : Nat) (fs : List Str) (us : List U) : dref σ (.ins c fs us) = some (.ins c fs us) := Eq.trans rfl rfl
@[simp] theorem dref_cel (k : Nat) : dref σ (.cel k) = σ[k]? := Eq.trans rfl rfl
@[simp] theorem lstU_lst (us : List U) : lstU σ (.lst us) = some us := Eq.trans rfl rfl
theorem lstU_eq {x : U} {us : List U} (h : dref σ x = some (.lst us)) : lstU σ x = some us := by unfold lstU; rw [h]
@[simp] theorem ub_add (i j : Int) : binU .add σ (.int i) (.int j) = some (.int (i + j)) := Eq.trans rfl rfl
@[simp] theorem ub_adds (a b : Str) : binU .add σ (.str a) (.str b) = if a.length + b.length ≤ sizeLine then some (.str (a ++ b)) else none := Eq.trans rfl rfl
@[simp] theorem ub_addt (a b : List U) : binU .add σ (.tup a) (.tup b) = if a.length + b.length ≤ sizeLine then some (.tup (a ++ b)) else none := Eq.trans rfl rfl
@[simp] theorem ub_addl (a b : List U) : binU .add σ (.lst a) (.lst b) = if a.length + b.length ≤ sizeLine then some (.lst (a ++ b)) else none := Eq.trans rfl rfl
@[simp] theorem ub_sub (i j : Int) : binU .sub σ (.int i) (.int j) = some (.int (i - j)) := Eq.trans rfl rfl
@[simp] theorem ub_mul (i j : Int) : binU .mul σ (.int i) (.int j) = if (-18446744073709551616 < i ∧ i < 18446744073709551616) ∨ (-18446744073709551616 < j ∧ j < 18446744073709551616) ∨ i.natAbs.log2 + j.natAbs.log2 < 1000000 then some (.int (i * j)) else none := Eq.trans rfl rfl
@[simp] theorem ub_muls (a : Str) (n : Int) : binU .mul σ (.str a) (.int n) = if 0 ≤ n ∧ n ≤ 1000 ∧ a.length ≤ 1000 then some (.str (repS a n.toNat)) else none := Eq.trans rfl rfl
@[simp] theorem ub_fdiv (i j : Int) : binU .fdiv σ (.int i) (.int j) = if 0 < j ∧ j < 18446744073709551616 then some (.int (i / j)) else none := Eq.trans rfl rfl
@[simp] theorem ub_mod (i j : Int) : binU .mod σ (.int i) (.int j) = if 0 < j then some (.int (i % j)) else none := Eq.trans rfl rfl
@[simp] theorem ub_pow (i j : Int) : binU .pow σ (.int i) (.int j) = if 0 ≤ j ∧ j ≤ 1000000 ∧ -18446744073709551616 < i ∧ i < 18446744073709551616 then some (.int (i ^ j.toNat)) else none := Eq.trans rfl rfl
@[simp] theorem ub_neg (i : Int) : negU σ (.int i) = .ok (.int (-i)) σ false := Eq.trans rfl rfl
@[simp] theorem uc_lt (i j : Int) : cmpU .lt σ (.int i) (.int j) = some (decide (i < j)) := Eq.trans rfl rfl
@[simp] theorem uc_le (i j : Int) : cmpU .le σ (.int i) (.int j) = some (decide (i ≤ j)) := Eq.trans rfl rfl
@[simp] theorem uc_gt (i j : Int) : cmpU .gt σ (.int i) (.int j) = some (decide (j < i)) := Eq.trans rfl rfl
@[simp] theorem uc_ge (i j : Int) : cmpU .ge σ (.int i) (.int j) = some (decide (j ≤ i)) := Eq.trans rfl rfl
@[simp] theorem uc_eqi (i j : Int) : cmpU .eq σ (.int i) (.int j) = some (decide (i = j)) := by
  show some (i == j) = some (decide (i = j))
  congr 1
@[simp] theorem uc_eqs (i j : Str) : cmpU .eq σ (.str i) (.str j) = some (decide (i = j)) := by
  show some (i == j) = some (decide (i = j))
  congr 1
@[simp] theorem uc_eqb (i j : Bool) : cmpU .eq σ (.bl i) (.bl j) = some (decide (i = j)) := by cases i <;> cases j <;> rfl
@[simp] theorem uc_nei (i j : Int) : cmpU .ne σ (.int i) (.int j) = some (!decide (i = j)) := by
  show some (!(i == j)) = some (!decide (i = j))
  congr 1
@[simp] theorem uc_nes (i j : Str) : cmpU .ne σ (.str i) (.str j) = some (!decide (i = j)) := by
  show some (!(i == j)) = some (!decide (i = j))
  congr 1
@[simp] theorem uc_neb (i j : Bool) : cmpU .ne σ (.bl i) (.bl j) = some (!decide (i = j)) := by cases i <;> cases j <;> rfl
@[simp] theorem uc_inn (x y : U) : cmpU .inn σ x y = inU σ x y := Eq.trans rfl rfl
@[simp] theorem uc_nin (x y : U) : cmpU .nin σ x y = (inU σ x y).map (!·) := Eq.trans rfl rfl
@[simp] theorem uc_is_non : cmpU .iss σ .non .non = some true := Eq.trans rfl rfl
@[simp] theorem uc_isn_non : cmpU .isn σ .non .non = some false := Eq.trans rfl rfl
@[simp] theorem uc_is_bl (b : Bool) : cmpU .iss σ (.bl b) .non = some false := Eq.trans rfl rfl
@[simp] theorem uc_isn_bl (b : Bool) : cmpU .isn σ (.bl b) .non = some true := Eq.trans rfl rfl
@[simp] theorem uc_is_int (i : Int) : cmpU .iss σ (.int i) .non = some false := Eq.trans rfl rfl
@[simp] theorem uc_isn_int (i : Int) : cmpU .isn σ (.int i) .non = some true := Eq.trans rfl rfl
@[simp] theorem uc_is_str (s : Str) : cmpU .iss σ (.str s) .non = some false := Eq.trans rfl rfl
@[simp] theorem uc_isn_str (s : Str) : cmpU .isn σ (.str s) .non = some true := Eq.trans rfl rfl
@[simp] theorem uc_is_tup (us : List U) : cmpU .iss σ (.tup us) .non = some false := Eq.trans rfl rfl
@[simp] theorem uc_isn_tup (us : List U) : cmpU .isn σ (.tup us) .non = some true := Eq.trans rfl rfl
@[simp] theorem uc_is_lst (us : List U) : cmpU .iss σ (.lst us) .non = some false := Eq.trans rfl rfl
@[simp] theorem uc_isn_lst (us : List U) : cmpU .isn σ (.lst us) .non = some true := Eq.trans rfl rfl
@[simp] theorem uc_is_cel (k : Nat) : cmpU .iss σ (.cel k) .non = some false := Eq.trans rfl rfl
@[simp] theorem uc_isn_cel (k : Nat) : cmpU .isn σ (.cel k) .non = some true := Eq.trans rfl rfl
@[simp] theorem ut_bl (b : Bool) : truU σ (.bl b) = some b := Eq.trans rfl rfl
@[simp] theorem ut_int (i : Int) : truU σ (.int i) = some (i != 0) := Eq.trans rfl rfl
@[simp] theorem ut_non : truU σ .non = some false := Eq.trans rfl rfl
@[simp] theorem ut_lst (us : List U) : truU σ (.lst us) = some (!us.isEmpty) := Eq.trans rfl rfl
@[simp] theorem ut_tup (us : List U) : truU σ (.tup us) = some (!us.isEmpty) := Eq.trans rfl rfl
@[simp] theorem andU_tt (k : Cs → PO U) : andU (.bl true) k σ = k σ := Eq.trans rfl rfl
@[simp] theorem andU_ff (k : Cs → PO U) : andU (.bl false) k σ = .ok (.bl false) σ false := Eq.trans rfl rfl
@[simp] theorem orU_ff (k : Cs → PO U) : orU (.bl false) k σ = k σ := Eq.trans rfl rfl
@[simp] theorem orU_tt (k : Cs → PO U) : orU (.bl true) k σ = .ok (.bl true) σ false := Eq.trans rfl rfl
@[simp] theorem asInt_int (i : Int) : asIntU σ (.int i) = .ok (some i) σ false := Eq.trans rfl rfl
@[simp] theorem bi_int (i : Int) : biU .int σ [.int i] = some (.int i) := Eq.trans rfl rfl
@[simp] theorem bi_intb (b : Bool) : biU .int σ [.bl b] = some (.int (if b then 1 else 0)) := Eq.trans rfl rfl
@[simp] theorem bi_abs (i : Int) : biU .abs σ [.int i] = some (.int (if i < 0 then -i else i)) := Eq.trans rfl rfl
@[simp] theorem bi_min (i j : Int) : biU .min σ [.int i, .int j] = some (.int (if j < i then j else i)) := Eq.trans rfl rfl
@[simp] theorem bi_max (i j : Int) : biU .max σ [.int i, .int j] = some (.int (if j > i then j else i)) := Eq.trans rfl rfl
@[simp] theorem bi_lens (s : Str) : biU .len σ [.str s] = if s.length ≤ sizeLine then some (.int s.length) else none := Eq.trans rfl rfl
@[simp] theorem bi_lenl (us : List U) : biU .len σ [.lst us] = some (.int us.length) := Eq.trans rfl rfl
@[simp] theorem bi_lent (us : List U) : biU .len σ [.tup us] = some (.int us.length) := Eq.trans rfl rfl
@[simp] theorem bi_lenr (us : List Int) : biU .len σ [.rol us] = some (.int us.length) := Eq.trans rfl rfl
theorem bi_lenc {x : U} {us : List U} (h : dref σ x = some (.lst us)) : biU .len σ [x] = some (.int us.length) := by
  show (match dref σ x with | some (.str s) => _ | some (.lst xs) => some (U.int xs.length) | some (.tup xs) => _ | some (.rol xs) => _ | _ => none) = _
  rw [h]
@[simp] theorem bi_listl (us : List U) : biU .list σ [.lst us] = some (.lst us) := Eq.trans rfl rfl
@[simp] theorem bi_listt (us : List U) : biU .list σ [.tup us] = some (.lst us) := Eq.trans rfl rfl
@[simp] theorem bi_tuple (us : List U) : biU .tuple σ [.lst us] = some (.tup us) := Eq.trans rfl rfl
@[simp] theorem bi_str (i : Int) : biU .str σ [.int i] = if -18446744073709551616 < i ∧ i < 18446744073709551616 then some (.str (toString i)) else none := Eq.trans rfl rfl
@[simp] theorem ux_lst (us : List U) (i : Int) : idxU σ (.lst us) (.int i) = atI us i := Eq.trans rfl rfl
@[simp] theorem ux_tup (us : List U) (i : Int) : idxU σ (.tup us) (.int i) = atI us i := Eq.trans rfl rfl
@[simp] theorem ux_rol (us : List Int) (i : Int) : idxU σ (.rol us) (.int i) = (atI us i).map U.int := Eq.trans rfl rfl
@[simp] theorem ux_str (z : Str) (i : Int) : idxU σ (.str z) (.int i) = if z.length ≤ sizeLine then (atI z.cps.toList i).map fun c => .str ⟨#[c]⟩ else none := Eq.trans rfl rfl
theorem ux_cel {x : U} {us : List U} (h : dref σ x = some (.lst us)) (i : Int) : idxU σ x (.int i) = atI us i := by unfold idxU; rw [h]
@[simp] theorem us_tup (us : List U) (lo hi : Option Int) : slcU σ (.tup us) lo hi = some (.tup (cutG us lo hi)) := Eq.trans rfl rfl
@[simp] theorem us_lst (us : List U) (lo hi : Option Int) : slcU σ (.lst us) lo hi = some (.lst (cutG us lo hi)) := Eq.trans rfl rfl
@[simp] theorem us_str (z : Str) (lo hi : Option Int) : slcU σ (.str z) lo hi = if z.length ≤ sizeLine then some (.str (cutS z lo hi)) else none := Eq.trans rfl rfl
@[simp] theorem src_lst (us : List U) : srcU σ (.lst us) = .ok ⟨us, none⟩ σ false := Eq.trans rfl rfl
@[simp] theorem src_tup (us : List U) : srcU σ (.tup us) = .ok ⟨us, none⟩ σ false := Eq.trans rfl rfl
@[simp] theorem src_rol (us : List Int) : srcU σ (.rol us) = .ok ⟨us.map U.int, none⟩ σ false := Eq.trans rfl rfl
@[simp] theorem src_str (z : Str) : srcU σ (.str z) = .ok ⟨z.cps.toList.map fun c => .str ⟨#[c]⟩, none⟩ σ false := Eq.trans rfl rfl
@[simp] theorem lock_no (us : List U) (lk : List Nat) : (USrc.mk us none).lock lk = lk := Eq.trans rfl rfl
@[simp] theorem lock_yes (us : List U) (k : Nat) (lk : List Nat) : (USrc.mk us (some k)).lock lk = k :: lk := Eq.trans rfl rfl
@[simp] theorem rng_1 (n : Int) : rngU σ [.int n] = if -4611686018427387904 ≤ n ∧ n < 4611686018427387904 then .ok ⟨(List.range n.toNat).map fun i => .int (i : Nat), none⟩ σ false else .bad := Eq.trans rfl rfl
@[simp] theorem rng_2 (a b : Int) : rngU σ [.int a, .int b] = if -4611686018427387904 ≤ a ∧ a < 4611686018427387904 ∧ -4611686018427387904 ≤ b ∧ b < 4611686018427387904 then .ok ⟨(List.range (b - a).toNat).map fun i => .int (a + (i : Nat)), none⟩ σ false else .bad := Eq.trans rfl rfl
@[simp] theorem isi_non_int  : isiU σ .non .int = some false := Eq.trans rfl rfl
@[simp] theorem isi_bl_int (b : Bool) : isiU σ (.bl b) .int = some true := Eq.trans rfl rfl
@[simp] theorem isi_int_int (i : Int) : isiU σ (.int i) .int = some true := Eq.trans rfl rfl
@[simp] theorem isi_str_int (s : Str) : isiU σ (.str s) .int = some false := Eq.trans rfl rfl
@[simp] theorem isi_tup_int (us : List U) : isiU σ (.tup us) .int = some false := Eq.trans rfl rfl
@[simp] theorem isi_lst_int (us : List U) : isiU σ (.lst us) .int = some false := Eq.trans rfl rfl
@[simp] theorem isi_non_bool  : isiU σ .non .bool = some false := Eq.trans rfl rfl
@[simp] theorem isi_bl_bool (b : Bool) : isiU σ (.bl b) .bool = some true := Eq.trans rfl rfl
@[simp] theorem isi_int_bool (i : Int) : isiU σ (.int i) .bool = some false := Eq.trans rfl rfl
@[simp] theorem isi_str_bool (s : Str) : isiU σ (.str s) .bool = some false := Eq.trans rfl rfl
@[simp] theorem isi_tup_bool (us : List U) : isiU σ (.tup us) .bool = some false := Eq.trans rfl rfl
@[simp] theorem isi_lst_bool (us : List U) : isiU σ (.lst us) .bool = some false := Eq.trans rfl rfl
@[simp] theorem isi_non_str  : isiU σ .non .str = some false := Eq.trans rfl rfl
@[simp] theorem isi_bl_str (b : Bool) : isiU σ (.bl b) .str = some false := Eq.trans rfl rfl
@[simp] theorem isi_int_str (i : Int) : isiU σ (.int i) .str = some false := Eq.trans rfl rfl
@[simp] theorem isi_str_str (s : Str) : isiU σ (.str s) .str = some true := Eq.trans rfl rfl
@[simp] theorem isi_tup_str (us : List U) : isiU σ (.tup us) .str = some false := Eq.trans rfl rfl
@[simp] theorem isi_lst_str (us : List U) : isiU σ (.lst us) .str = some false := Eq.trans rfl rfl
@[simp] theorem isi_non_list  : isiU σ .non .list = some false := Eq.trans rfl rfl
@[simp] theorem isi_bl_list (b : Bool) : isiU σ (.bl b) .list = some false := Eq.trans rfl rfl
@[simp] theorem isi_int_list (i : Int) : isiU σ (.int i) .list = some false := Eq.trans rfl rfl
@[simp] theorem isi_str_list (s : Str) : isiU σ (.str s) .list = some false := Eq.trans rfl rfl
@[simp] theorem isi_tup_list (us : List U) : isiU σ (.tup us) .list = some false := Eq.trans rfl rfl
@[simp] theorem isi_lst_list (us : List U) : isiU σ (.lst us) .list = some true := Eq.trans rfl rfl
@[simp] theorem isi_non_tuple  : isiU σ .non .tuple = some false := Eq.trans rfl rfl
@[simp] theorem isi_bl_tuple (b : Bool) : isiU σ (.bl b) .tuple = some false := Eq.trans rfl rfl
@[simp] theorem isi_int_tuple (i : Int) : isiU σ (.int i) .tuple = some false := Eq.trans rfl rfl
@[simp] theorem isi_str_tuple (s : Str) : isiU σ (.str s) .tuple = some false := Eq.trans rfl rfl
@[simp] theorem isi_tup_tuple (us : List U) : isiU σ (.tup us) .tuple = some true := Eq.trans rfl rfl
@[simp] theorem isi_lst_tuple (us : List U) : isiU σ (.lst us) .tuple = some false := Eq.trans rfl rfl
end
/-! flatness -/
@[simp] theorem fl_non : U.fl .non = true := Eq.trans rfl rfl
@[simp] theorem fl_bl (b : Bool) : U.fl (.bl b) = true := Eq.trans rfl rfl
@[simp] theorem fl_int (i : Int) : U.fl (.int i) = true := Eq.trans rfl rfl
@[simp] theorem fl_str (s : Str) : U.fl (.str s) = true := Eq.trans rfl rfl
@[simp] theorem fl_tup (us : List U) : U.fl (.tup us) = flL us := Eq.trans rfl rfl
@[simp] theorem flL_nil : flL [] = true := Eq.trans rfl rfl
@[simp] theorem flL_cons (u : U) (us : List U) : flL (u :: us) = (u.fl && flL us) := Eq.trans rfl rfl
section
variable {m : Nat}
@[simp] theorem lc_non : U.lc m .non = true := Eq.trans rfl rfl
@[simp] theorem lc_bl (b : Bool) : U.lc m (.bl b) = true := Eq.trans rfl rfl
@[simp] theorem lc_int (i : Int) : U.lc m (.int i) = true := Eq.trans rfl rfl
@[simp] theorem lc_str (s : Str) : U.lc m (.str s) = true := Eq.trans rfl rfl
@[simp] theorem lc_rol (s : List Int) : U.lc m (.rol s) = true := Eq.trans rfl rfl
@[simp] theorem lc_ktp (s : List Str) : U.lc m (.ktp s) = true := Eq.trans rfl rfl
@[simp] theorem lc_tup (us : List U) : U.lc m (.tup us) = lcL m us := Eq.trans rfl rfl
@[simp] theorem lc_lst (us : List U) : U.lc m (.lst us) = lcL m us := Eq.trans rfl rfl
@[simp] theorem lc_dct (ks : List Key) (us : List U) : U.lc m (.dct ks us) = lcL m us := Eq.trans rfl rfl
@[simp] theorem lc_dtt (ks : List (List Key)) (us : List U) : U.lc m (.dtt ks us) = lcL m us := Eq.trans rfl rfl
@[simp] theorem lc_ins (c : Nat) (fs : List Str) (us : List U) : U.lc m (.ins c fs us) = lcL m us := Eq.trans rfl rfl
@[simp] theorem lc_cel (k : Nat) : U.lc m (.cel k) = decide (k < m) := Eq.trans rfl rfl
@[simp] theorem lcL_nil : lcL m [] = true := Eq.trans rfl rfl
@[simp] theorem lcL_cons (u : U) (us : List U) : lcL m (u :: us) = (u.lc m && lcL m us) := Eq.trans rfl rfl
end
end Dv
end

section
set_option Elab.async false
set_option autoImplicit false
set_option linter.all false
set_option maxRecDepth 100000
/-! PvU: calls, ends that are wanted, loops, by values. -/
namespace Dv
open PySem L2
/-! ### calls -/
section
variable {G : Gl} {F : Fl} {P : Nat → Option Def} {pc : Pc} {n f m : Nat} {d : Def} {vs : List U} {σ : Cs} {u w : U} {z fre : Bool} {lk : List Nat}
theorem pcall_eq (h : P f = some d) (l : vs.length = d.np) : pcallN G F P (n + 1) f vs σ = endR (F.fre f) σ.length (pS G F (pcallN G F P n) σ.length f d.body none [] (vs.map some ++ List.replicate (d.ns - vs.length) none) σ) := by
  show (match P f with | some d => _ | none => _) = _
  rw [h]
  show (if vs.length = d.np then _ else _) = _
  rw [if_pos l]
@[simp] theorem endR_nx (e : UE) : endR fre m (.nx e σ z) = endV fre m .non σ z := Eq.trans rfl rfl
@[simp] theorem endR_rt : endR fre m (.rt u σ z) = endV fre m u σ z := Eq.trans rfl rfl
@[simp] theorem endR_bad : endR fre m .bad = .bad := Eq.trans rfl rfl
@[simp] theorem endR_exc0 (c : Nat) (fs : List (Str × U)) (e : UE) : endR fre 0 (.exc c fs e σ z) = .exc c fs [] false := by
  show (if (z = false ∨ (0 : Nat) = 0) ∧ lcL 0 (σ.take 0) = true then _ else _) = _
  rw [if_pos ⟨.inr rfl, rfl⟩]
  rfl
@[simp] theorem endR_if (q : Prop) [Decidable q] (a b : PR) : endR fre m (if q then a else b) = if q then endR fre m a else endR fre m b := by by_cases h : q <;> simp [h]
/-- a value comes out -/
theorem endV_0 (h : u.lc 0 = true) : endV false 0 u σ z = .ok u [] z := by
  unfold endV
  rw [if_neg (by simp)]
  show (if lcL 0 (σ.take 0) = true then _ else _) = _
  rw [if_pos (show lcL 0 (σ.take 0) = true from rfl)]
  have e : frz 0 σ 4 u = some u := by unfold frz; rw [if_pos h]
  rw [e]
  rfl
/-- a cell comes out -/
theorem endV_c {k : Nat} (h : σ[k]? = some w) (hw : w.lc 0 = true) : endV fre 0 (.cel k) σ z = .ok w [] z := by
  unfold endV
  rw [if_neg (by simp [isNew])]
  show (if lcL 0 (σ.take 0) = true then _ else _) = _
  rw [if_pos (show lcL 0 (σ.take 0) = true from rfl)]
  have e : frz 0 σ 4 (.cel k) = some w := by
    unfold frz
    rw [if_neg (by simp)]
    show (σ[k]?).bind (frz 0 σ 3) = _
    rw [h]
    show frz 0 σ 3 w = _
    unfold frz
    rw [if_pos hw]
  rw [e]
  rfl
/-- back to the cells of the caller, a value -/
theorem endV_m (hu : u.lc m = true) (hσ : lcL m (σ.take m) = true) : endV false m u σ z = .ok u (σ.take m) z := by
  unfold endV
  rw [if_neg (by simp), if_pos hσ]
  have e : frz m σ 4 u = some u := by unfold frz; rw [if_pos hu]
  rw [e]
theorem calU_pure {ws : List U} (io : F.io f = false) (h : pc f vs [] = .ok u [] z) (hv : lcL 0 vs = true) : calU F pc lk f vs σ = .ok u σ false := by
  unfold calU
  rw [if_neg (by rw [io]; decide), frzL_free hv]
  simp only [h]
  rw [if_pos (by rw [hv]; rfl)]
theorem calU_exc {c : Nat} {fs : List (Str × U)} (io : F.io f = false) (h : pc f vs [] = .exc c fs [] z) (hv : lcL 0 vs = true) : calU F pc lk f vs σ = .exc c fs σ false := by
  unfold calU
  rw [if_neg (by rw [io]; decide), frzL_free hv]
  simp only [h]
theorem calU_io (io : F.io f = true) : calU F pc [] f vs σ = pc f vs σ := by
  unfold calU
  rw [if_pos io, if_pos rfl]
/-- with cells among what is passed, a flat value comes back -/
theorem calU_frz {ws : List U} (io : F.io f = false) (hw : frzL (frz 0 σ 4) vs = some ws) (h : pc f ws [] = .ok u [] z) (hu : u.fl = true) : calU F pc lk f vs σ = .ok u σ false := by
  unfold calU
  rw [if_neg (by rw [io]; decide), hw]
  simp only [h]
  rw [if_pos (by rw [hu]; simp)]
theorem frz_val {k : Nat} (h : u.lc 0 = true) : frz 0 σ (k + 1) u = some u := by unfold frz; rw [if_pos h]
theorem frz_cel {k j : Nat} (h : σ[k]? = some w) (hw : w.lc 0 = true) : frz 0 σ (j + 2) (.cel k) = some w := by
  unfold frz
  rw [if_neg (by simp)]
  show (σ[k]?).bind (frz 0 σ (j + 1)) = _
  rw [h]
  exact frz_val hw
theorem frzL_nil' {f : U → Option U} : frzL f [] = some [] := rfl
theorem frzL_cons' {f : U → Option U} {a b : U} {r s : List U} (h : f a = some b) (h2 : frzL f r = some s) : frzL f (a :: r) = some (b :: s) := by
  show (match f a, frzL f r with | some x, some xs => some (x :: xs) | _, _ => none) = _
  rw [h, h2]
theorem lcL_app (a b : List U) : lcL m (a ++ b) = (lcL m a && lcL m b) := by
  induction a with
  | nil => rfl
  | cons x r ih => show (x.lc m && lcL m (r ++ b)) = _; rw [ih, ← Bool.and_assoc]; rfl
theorem flL_app (a b : List U) : flL (a ++ b) = (flL a && flL b) := by
  induction a with
  | nil => rfl
  | cons x r ih => show (x.fl && flL (r ++ b)) = _; rw [ih, ← Bool.and_assoc]; rfl
theorem lcL_map {α : Type} {g : α → U} (h : ∀ x, (g x).lc m = true) (xs : List α) : lcL m (xs.map g) = true := by
  induction xs with
  | nil => rfl
  | cons x r ih => show ((g x).lc m && lcL m (r.map g)) = true; rw [h, ih]; rfl
theorem flL_map {α : Type} {g : α → U} (h : ∀ x, (g x).fl = true) (xs : List α) : flL (xs.map g) = true := by
  induction xs with
  | nil => rfl
  | cons x r ih => show ((g x).fl && flL (r.map g)) = true; rw [h, ih]; rfl
@[simp] theorem lcL_ints (xs : List Int) : lcL m (xs.map U.int) = true := lcL_map (fun _ => rfl) xs
@[simp] theorem lcL_strs (xs : List Str) : lcL m (xs.map U.str) = true := lcL_map (fun _ => rfl) xs
@[simp] theorem flL_ints (xs : List Int) : flL (xs.map U.int) = true := flL_map (fun _ => rfl) xs
@[simp] theorem flL_strs (xs : List Str) : flL (xs.map U.str) = true := flL_map (fun _ => rfl) xs
end
mutual
theorem lc_of_fl {m : Nat} : ∀ {u : U}, u.fl = true → u.lc m = true
  | .non, _ => rfl
  | .bl _, _ => rfl
  | .int _, _ => rfl
  | .str _, _ => rfl
  | .rol _, _ => rfl
  | .ktp _, _ => rfl
  | .tup us, h => by simp only [U.lc]; exact lcL_of_fl (by simpa only [U.fl] using h)
  | .lst _, h => by cases h
  | .dct _ _, h => by cases h
  | .dtt _ _, h => by cases h
  | .ins _ _ _, h => by cases h
  | .cel _, h => by cases h
theorem lcL_of_fl {m : Nat} : ∀ {us : List U}, flL us = true → lcL m us = true
  | [], _ => rfl
  | u :: us, h => by
    obtain ⟨h1, h2⟩ := Bool.and_eq_true_iff.mp (show (u.fl && flL us) = true from h)
    show (u.lc m && lcL m us) = true
    rw [lc_of_fl h1, lcL_of_fl h2]
    rfl
end
theorem lcL_set {m : Nat} : ∀ {s : List U} {j : Nat} {u : U}, lcL m s = true → u.lc m = true → lcL m (s.set j u) = true
  | [], _, _, h, _ => h
  | a :: s, 0, u, h, hu => by
    obtain ⟨h1, h2⟩ := Bool.and_eq_true_iff.mp (show (a.lc m && lcL m s) = true from h)
    show (u.lc m && lcL m s) = true
    rw [hu, h2]
    rfl
  | a :: s, j + 1, u, h, hu => by
    obtain ⟨h1, h2⟩ := Bool.and_eq_true_iff.mp (show (a.lc m && lcL m s) = true from h)
    show (a.lc m && lcL m (s.set j u)) = true
    rw [h1, lcL_set h2 hu]
    rfl
theorem set_self {σ : Cs} {k : Nat} {u : U} (h : σ[k]? = some u) : σ.set k u = σ := by
  apply List.ext_getElem?
  intro i
  by_cases hi : k = i
  · subst hi; rw [List.getElem?_set_self (List.getElem?_eq_some_iff.mp h).1, h]
  · rw [List.getElem?_set_ne hi]
theorem take_set {σ : Cs} {k : Nat} {u : U} : (σ.set k u).take σ.length = σ.set k u := List.take_of_length_le (by simp)
/-- a cell's call comes back with a flat value, one cell changed -/
theorem endV_set {σ : Cs} {k : Nat} {u w : U} {z : Bool} (hu : u.fl = true) (hw : w.lc σ.length = true) (hσ : lcL σ.length σ = true) : endV false σ.length u (σ.set k w) z = .ok u (σ.set k w) z := by
  have e := endV_m (z := z) (lc_of_fl (m := σ.length) hu) (show lcL σ.length ((σ.set k w).take σ.length) = true by rw [take_set]; exact lcL_set hσ hw)
  rw [take_set] at e
  exact e
theorem endV_same {σ : Cs} {u : U} {z : Bool} (hu : u.fl = true) (hσ : lcL σ.length σ = true) : endV false σ.length u σ z = .ok u σ z := by
  have e := endV_m (z := z) (lc_of_fl (m := σ.length) hu) (show lcL σ.length (σ.take σ.length) = true by rw [List.take_length]; exact hσ)
  rw [List.take_length] at e
  exact e
theorem bm_pop {σ : Cs} {k m : Nat} {us : List U} {x : U} {lk : List Nat} (h : σ[k]? = some (.lst us)) (hx : us[us.length - 1]? = some x) (hk : k ∉ lk) : bmU lk m .pop σ (.cel k) [] = .ok x (σ.set k (.lst us.dropLast)) false := by
  unfold bmU
  simp only
  rw [h]
  simp only
  rw [hx]
  simp only [putC]
  rw [if_neg hk]
  simp
theorem bm_app {σ : Cs} {k m : Nat} {us : List U} {x : U} {lk : List Nat} (h : σ[k]? = some (.lst us)) (hl : us.length < 1000000) (hk : k ∉ lk) (hf : m ≤ k ∨ x.fl = true) : bmU lk m .append σ (.cel k) [x] = .ok .non (σ.set k (.lst (us ++ [x]))) false := by
  unfold bmU
  simp only
  rw [h]
  simp only
  rw [if_pos (by rw [sizeLine_val]; omega)]
  simp only [putC]
  rw [if_neg hk]
  rcases hf with hf | hf
  · have : decide (k < m) = false := by simpa using hf
    rw [this]
    rfl
  · rw [hf]
    simp
theorem ty_cel {σ : Cs} {k : Nat} {us : List U} (h : σ[k]? = some (.lst us)) : bmTyU .pop σ (.cel k) = true ∧ bmTyU .append σ (.cel k) = true ∧ bmTyU .extend σ (.cel k) = true ∧ bmTyU .index σ (.cel k) = true := by
  have : (lstU σ (.cel k)).isSome = true := by rw [lstU_eq (x := .cel k) h]; rfl
  exact ⟨this, this, this, this⟩
/-! ### what is wanted -/
def Wo {α : Type} (p : PO α) (Q : α → Cs → Prop) (X : Nat → List (Str × U) → Cs → Prop) : Prop := match p with
  | .ok a σ z => z = false ∧ Q a σ
  | .exc c fs σ z => z = false ∧ X c fs σ
  | .bad => False
def Wr (r : PR) (N : UE → Cs → Prop) (R : U → Cs → Prop) (X : Nat → List (Str × U) → UE → Cs → Prop) : Prop := match r with
  | .nx e σ z => z = false ∧ N e σ
  | .rt u σ z => z = false ∧ R u σ
  | .exc c fs e σ z => z = false ∧ X c fs e σ
  | .bad => False
section
variable {α β : Type} {Q : β → Cs → Prop} {X : Nat → List (Str × U) → Cs → Prop} {N : UE → Cs → Prop} {R : U → Cs → Prop} {XS : Nat → List (Str × U) → UE → Cs → Prop} {e : UE} {σ : Cs} {z : Bool}
@[simp] theorem wo_ok (a : β) : Wo (.ok a σ false) Q X = Q a σ := by simp [Wo]
@[simp] theorem wo_exc (c : Nat) (fs : List (Str × U)) : Wo (.exc c fs σ false : PO β) Q X = X c fs σ := by simp [Wo]
@[simp] theorem wo_bad : Wo (.bad : PO β) Q X = False := Eq.trans rfl rfl
@[simp] theorem wo_if (c : Prop) [Decidable c] (a b : PO β) : Wo (if c then a else b) Q X = if c then Wo a Q X else Wo b Q X := by by_cases h : c <;> simp [h]
@[simp] theorem wr_nx : Wr (.nx e σ false) N R XS = N e σ := by simp [Wr]
@[simp] theorem wr_rt (u : U) : Wr (.rt u σ false) N R XS = R u σ := by simp [Wr]
@[simp] theorem wr_exc (c : Nat) (fs : List (Str × U)) : Wr (.exc c fs e σ false) N R XS = XS c fs e σ := by simp [Wr]
@[simp] theorem wr_bad : Wr .bad N R XS = False := Eq.trans rfl rfl
@[simp] theorem wr_if (c : Prop) [Decidable c] (a b : PR) : Wr (if c then a else b) N R XS = if c then Wr a N R XS else Wr b N R XS := by by_cases h : c <;> simp [h]
theorem wo_bind (p : PO α) (f : α → Cs → PO β) : Wo (p.bind f) Q X = Wo p (fun a σ => Wo (f a σ) Q X) X := by
  cases p with
  | bad => rfl
  | exc c fs σ z => rfl
  | ok a σ z =>
    show Wo ((f a σ).or z) Q X = (z = false ∧ Wo (f a σ) Q X)
    cases f a σ <;> cases z <;> simp [PO.or, Wo]
theorem wr_run (p : PO α) (f : α → Cs → PR) : Wr (p.run e f) N R XS = Wo p (fun a σ => Wr (f a σ) N R XS) (fun c fs σ => XS c fs e σ) := by
  cases p with
  | bad => rfl
  | exc c fs σ z => rfl
  | ok a σ z =>
    show Wr ((f a σ).or z) N R XS = (z = false ∧ Wr (f a σ) N R XS)
    cases f a σ <;> cases z <;> simp [PR.or, Wr]
theorem wr_then (r : PR) (f : UE → Cs → PR) : Wr (r.andThen f) N R XS = Wr r (fun e σ => Wr (f e σ) N R XS) R XS := by
  cases r with
  | bad => rfl
  | exc c fs e σ z => rfl
  | rt u σ z => rfl
  | nx e σ z =>
    show Wr ((f e σ).or z) N R XS = (z = false ∧ Wr (f e σ) N R XS)
    cases f e σ <;> cases z <;> simp [PR.or, Wr]
theorem wr_cons {G : Gl} {F : Fl} {pc : Pc} {m f : Nat} {cu : Option (Nat × List (Str × U))} {lk : List Nat} (x y : S) : Wr (pS G F pc m f (.cons x y) cu lk e σ) N R XS = Wr (pS G F pc m f x cu lk e σ) (fun e σ => Wr (pS G F pc m f y cu lk e σ) N R XS) R XS := by
  rw [ps_cons, wr_then]
theorem Wo.mono {p : PO β} {Q' : β → Cs → Prop} {X' : Nat → List (Str × U) → Cs → Prop} (h : Wo p Q X) (hq : ∀ a σ, Q a σ → Q' a σ) (hx : ∀ c fs σ, X c fs σ → X' c fs σ) : Wo p Q' X' := by
  cases p with
  | bad => exact h
  | exc c fs σ z => exact ⟨h.1, hx _ _ _ h.2⟩
  | ok a σ z => exact ⟨h.1, hq _ _ h.2⟩
theorem Wr.mono {r : PR} {N' : UE → Cs → Prop} {R' : U → Cs → Prop} {XS' : Nat → List (Str × U) → UE → Cs → Prop} (h : Wr r N R XS) (hn : ∀ e σ, N e σ → N' e σ) (hr : ∀ d σ, R d σ → R' d σ) (hx : ∀ c fs e σ, XS c fs e σ → XS' c fs e σ) : Wr r N' R' XS' := by
  cases r with
  | bad => exact h
  | nx e σ z => exact ⟨h.1, hn _ _ h.2⟩
  | rt u σ z => exact ⟨h.1, hr _ _ h.2⟩
  | exc c fs e σ z => exact ⟨h.1, hx _ _ _ _ h.2⟩
theorem Wo.eq {p : PO β} {a : β} {σ' : Cs} (h : Wo p (fun b σ => b = a ∧ σ = σ') (fun _ _ _ => False)) : p = .ok a σ' false := by
  cases p with
  | bad => exact h.elim
  | exc c fs σ z => exact h.2.elim
  | ok b σ z =>
    obtain ⟨rfl, rfl, rfl⟩ := h
    rfl
abbrev Nox : Nat → List (Str × U) → Cs → Prop := fun _ _ _ => False
abbrev NoxS : Nat → List (Str × U) → UE → Cs → Prop := fun _ _ _ _ => False
/-- a for: the invariant by the turn -/
theorem wr_for {tg : List Nat} {sole : Bool} {body : UE → Cs → PR} {xs : List U} (I : Nat → UE → Cs → Prop) (h0 : I 0 e σ)
    (hs : ∀ i x e σ, xs[i]? = some x → I i e σ → ∃ e', bindTU tg sole x e = some e' ∧ Wr (body e' σ) (I (i + 1)) R XS) (he : ∀ e σ, I xs.length e σ → N e σ) : Wr (forU tg sole body xs e σ) N R XS := by
  induction xs generalizing I e σ with
  | nil => rw [forU_nil, wr_nx]; exact he e σ h0
  | cons x r ih =>
    obtain ⟨e', h2, h3⟩ := hs 0 x e σ rfl h0
    rw [forU_cons, h2]
    show Wr ((body e' σ).andThen _) N R XS
    rw [wr_then]
    exact h3.mono (fun e σ h => ih (fun i => I (i + 1)) h (fun i y e σ hy hi => hs (i + 1) y e σ hy hi) fun e σ hi => he e σ hi) (fun _ _ h => h) fun _ _ _ _ h => h
/-- a while: the invariant, a measure -/
theorem wr_whl {c : UE → Cs → PO Bool} {body : UE → Cs → PR} (I : Nat → UE → Cs → Prop) (hs : ∀ k e σ, I k e σ → Wo (c e σ) (fun b σ1 => if b = true then Wr (body e σ1) (fun e2 σ2 => ∃ j, j < k ∧ I j e2 σ2) R XS else N e σ1) (fun c fs σ1 => XS c fs e σ1)) :
    ∀ (n k : Nat) (e : UE) (σ : Cs), k < n → I k e σ → Wr (whlU c body n e σ) N R XS
  | 0, k, e, σ, h, _ => by omega
  | n + 1, k, e, σ, h, hi => by
    show Wr ((c e σ).run e _) N R XS
    rw [wr_run]
    refine (hs k e σ hi).mono (fun b σ1 q => ?_) fun _ _ _ q => q
    cases b with
    | false =>
      have q : N e σ1 := by simpa using q
      show Wr (.nx e σ1 false) N R XS
      rw [wr_nx]
      exact q
    | true =>
      have q : Wr (body e σ1) (fun e2 σ2 => ∃ j, j < k ∧ I j e2 σ2) R XS := by simpa using q
      show Wr ((body e σ1).andThen _) N R XS
      rw [wr_then]
      exact q.mono (fun e2 σ2 ⟨j, hj, hi2⟩ => wr_whl I hs n j e2 σ2 (by omega) hi2) (fun _ _ h => h) fun _ _ _ _ h => h
/-- a comprehension over what is mapped, no cell changed -/
theorem comp_v {γ : Type} {tg : List Nat} {sole : Bool} {tt : UE → Cs → PO Bool} {te : UE → Cs → PO U} (g : γ → U) (p : γ → Bool) (f : γ → U) {xs : List γ} (hl : xs.length ≤ 1000000)
    (h : ∀ x ∈ xs, ∃ e', bindTU tg sole (g x) e = some e' ∧ tt e' σ = .ok (p x) σ false ∧ (p x = true → te e' σ = .ok (f x) σ false)) : compU tg sole e tt te (xs.map g) [] σ = .ok ((xs.filter p).map f) σ false := by
  have key : ∀ (l : List γ) (acc : List U), (∀ x ∈ l, x ∈ xs) → acc.length + l.length ≤ 1000000 → compU tg sole e tt te (l.map g) acc σ = .ok (acc ++ (l.filter p).map f) σ false := by
    intro l
    induction l with
    | nil =>
      intro acc _ _
      show PO.ok acc σ false = _
      simp
    | cons x r ih =>
      intro acc hm hl
      obtain ⟨e', h1, h2, h3⟩ := h x (hm x List.mem_cons_self)
      rw [List.map_cons]
      unfold compU
      rw [h1]
      simp only
      rw [h2]
      simp only [po_nox_ok, po_bind_ok, po_or_false]
      rw [List.length_cons] at hl
      cases hp : p x with
      | false =>
        rw [if_neg (by decide), ih acc (fun y hy => hm y (List.mem_cons_of_mem _ hy)) (by omega), List.filter_cons_of_neg (by rw [hp]; decide)]
      | true =>
        rw [if_pos rfl, h3 hp]
        simp only [po_nox_ok, po_bind_ok, po_or_false]
        rw [if_pos (by rw [sizeLine_val]; omega), ih (acc ++ [f x]) (fun y hy => hm y (List.mem_cons_of_mem _ hy)) (by rw [List.length_append, List.length_singleton]; omega), List.filter_cons_of_pos (by rw [hp])]
        simp
  have := key xs [] (fun _ h => h) (by simpa using hl)
  rwa [List.nil_append] at this
end
/-- a call's end, wanted -/
theorem wo_call {G : Gl} {F : Fl} {P : Nat → Option Def} {n f : Nat} {d : Def} {vs : List U} {σ : Cs} {Q : U → Cs → Prop} {X : Nat → List (Str × U) → Cs → Prop} (h : P f = some d) (l : vs.length = d.np)
    (w : Wr (pS G F (pcallN G F P n) σ.length f d.body none [] (vs.map some ++ List.replicate (d.ns - vs.length) none) σ) (fun _ σ1 => Wo (endV (F.fre f) σ.length .non σ1 false) Q X) (fun u σ1 => Wo (endV (F.fre f) σ.length u σ1 false) Q X)
      (fun c fs _ σ1 => lcL σ.length (σ1.take σ.length) = true ∧ X c fs (σ1.take σ.length))) : Wo (pcallN G F P (n + 1) f vs σ) Q X := by
  rw [pcall_eq h l]
  revert w
  cases pS G F (pcallN G F P n) σ.length f d.body none [] (vs.map some ++ List.replicate (d.ns - vs.length) none) σ with
  | bad => exact fun w => w
  | nx e σ1 z => rintro ⟨rfl, w⟩; exact w
  | rt u σ1 z => rintro ⟨rfl, w⟩; exact w
  | exc c fs e σ1 z =>
    rintro ⟨rfl, w1, w2⟩
    unfold endR
    show Wo (if (false = false ∨ σ.length = 0) ∧ lcL σ.length (σ1.take σ.length) = true then .exc c fs (σ1.take σ.length) false else .bad) Q X
    rw [if_pos ⟨.inl rfl, w1⟩, wo_exc]
    exact w2
theorem atI_natU {α : Type} (xs : List α) (k : Nat) : atI xs (k : Int) = xs[k]? := atI_nat xs k
end Dv
end

section
set_option Elab.async false
set_option autoImplicit false
set_option linter.all false
set_option maxRecDepth 100000
/-! Flg: what is said of the defs (printed by flags.py). -/
namespace Dv
open PySem
def FF : Fl where
  io := fun f => [0, 19, 20, 21, 22, 24, 44, 46, 52, 54, 63, 77, 78, 79, 80, 82, 84, 85, 86, 87, 90, 91, 92, 94, 95, 101, 102, 103, 104, 105, 110, 111, 112, 113, 120, 155, 156, 158, 159, 161, 162, 163, 164, 177, 178, 182, 200, 208, 211, 212, 219, 224, 229, 231, 235, 239, 246, 250, 251, 270, 275, 276, 280].contains f
  fre := fun f => [15, 51, 88].contains f
  O := fun f i => [(12, 2), (15, 5), (27, 4), (31, 3), (38, 4), (56, 6), (56, 7), (56, 9), (65, 6), (65, 7), (96, 7), (97, 2), (98, 13), (106, 7), (107, 4), (108, 4), (108, 5), (117, 4), (121, 5), (121, 6), (121, 9), (123, 5), (123, 6), (123, 9), (125, 3), (125, 4), (127, 2), (127, 3), (130, 5), (131, 2), (133, 17), (134, 4), (135, 7), (137, 7), (138, 7), (145, 6), (146, 11), (148, 1), (150, 3), (154, 4), (160, 6), (160, 7), (160, 9), (165, 7), (166, 10), (166, 11), (170, 6), (171, 4), (174, 16), (175, 3), (183, 7), (186, 3), (188, 1), (189, 3), (189, 4), (194, 6), (195, 9), (195, 10), (206, 1), (206, 2), (207, 2), (212, 2), (220, 6), (220, 7), (220, 8), (220, 10), (225, 4), (225, 5), (226, 1), (226, 2), (227, 3), (245, 7), (247, 6), (247, 7), (247, 9), (252, 4), (252, 6), (257, 1), (261, 3), (263, 5), (267, 2), (268, 12), (269, 2), (269, 3), (274, 4), (279, 5), (281, 5)].contains (f, i)
  A := fun c f => [(4, ("_rows" : Str)), (4, ("_struck" : Str)), (6, ("found" : Str)), (9, ("_rows" : Str)), (10, ("_letters" : Str)), (11, ("_claims" : Str)), (11, ("_taken" : Str))].contains (c, f)
@[simp] theorem io_0 : FF.io 0 = true := Eq.trans rfl rfl
@[simp] theorem fre_0 : FF.fre 0 = false := Eq.trans rfl rfl
@[simp] theorem O_0_0 : FF.O 0 0 = false := Eq.trans rfl rfl
@[simp] theorem O_0_1 : FF.O 0 1 = false := Eq.trans rfl rfl
@[simp] theorem io_1 : FF.io 1 = false := Eq.trans rfl rfl
@[simp] theorem fre_1 : FF.fre 1 = false := Eq.trans rfl rfl
@[simp] theorem O_1_0 : FF.O 1 0 = false := Eq.trans rfl rfl
@[simp] theorem O_1_1 : FF.O 1 1 = false := Eq.trans rfl rfl
@[simp] theorem io_2 : FF.io 2 = false := Eq.trans rfl rfl
@[simp] theorem fre_2 : FF.fre 2 = false := Eq.trans rfl rfl
@[simp] theorem O_2_0 : FF.O 2 0 = false := Eq.trans rfl rfl
@[simp] theorem O_2_1 : FF.O 2 1 = false := Eq.trans rfl rfl
@[simp] theorem io_3 : FF.io 3 = false := Eq.trans rfl rfl
@[simp] theorem fre_3 : FF.fre 3 = false := Eq.trans rfl rfl
@[simp] theorem O_3_0 : FF.O 3 0 = false := Eq.trans rfl rfl
@[simp] theorem O_3_1 : FF.O 3 1 = false := Eq.trans rfl rfl
@[simp] theorem O_3_2 : FF.O 3 2 = false := Eq.trans rfl rfl
@[simp] theorem io_4 : FF.io 4 = false := Eq.trans rfl rfl
@[simp] theorem fre_4 : FF.fre 4 = false := Eq.trans rfl rfl
@[simp] theorem O_4_0 : FF.O 4 0 = false := Eq.trans rfl rfl
@[simp] theorem O_4_1 : FF.O 4 1 = false := Eq.trans rfl rfl
@[simp] theorem io_5 : FF.io 5 = false := Eq.trans rfl rfl
@[simp] theorem fre_5 : FF.fre 5 = false := Eq.trans rfl rfl
@[simp] theorem O_5_0 : FF.O 5 0 = false := Eq.trans rfl rfl
@[simp] theorem O_5_1 : FF.O 5 1 = false := Eq.trans rfl rfl
@[simp] theorem O_5_2 : FF.O 5 2 = false := Eq.trans rfl rfl
@[simp] theorem io_6 : FF.io 6 = false := Eq.trans rfl rfl
@[simp] theorem fre_6 : FF.fre 6 = false := Eq.trans rfl rfl
@[simp] theorem O_6_0 : FF.O 6 0 = false := Eq.trans rfl rfl
@[simp] theorem O_6_1 : FF.O 6 1 = false := Eq.trans rfl rfl
@[simp] theorem O_6_2 : FF.O 6 2 = false := Eq.trans rfl rfl
@[simp] theorem O_6_3 : FF.O 6 3 = false := Eq.trans rfl rfl
@[simp] theorem io_7 : FF.io 7 = false := Eq.trans rfl rfl
@[simp] theorem fre_7 : FF.fre 7 = false := Eq.trans rfl rfl
@[simp] theorem O_7_0 : FF.O 7 0 = false := Eq.trans rfl rfl
@[simp] theorem O_7_1 : FF.O 7 1 = false := Eq.trans rfl rfl
@[simp] theorem O_7_2 : FF.O 7 2 = false := Eq.trans rfl rfl
@[simp] theorem O_7_3 : FF.O 7 3 = false := Eq.trans rfl rfl
@[simp] theorem O_7_4 : FF.O 7 4 = false := Eq.trans rfl rfl
@[simp] theorem io_8 : FF.io 8 = false := Eq.trans rfl rfl
@[simp] theorem fre_8 : FF.fre 8 = false := Eq.trans rfl rfl
@[simp] theorem O_8_0 : FF.O 8 0 = false := Eq.trans rfl rfl
@[simp] theorem O_8_1 : FF.O 8 1 = false := Eq.trans rfl rfl
@[simp] theorem O_8_2 : FF.O 8 2 = false := Eq.trans rfl rfl
@[simp] theorem O_8_3 : FF.O 8 3 = false := Eq.trans rfl rfl
@[simp] theorem O_8_4 : FF.O 8 4 = false := Eq.trans rfl rfl
@[simp] theorem io_9 : FF.io 9 = false := Eq.trans rfl rfl
@[simp] theorem fre_9 : FF.fre 9 = false := Eq.trans rfl rfl
@[simp] theorem O_9_0 : FF.O 9 0 = false := Eq.trans rfl rfl
@[simp] theorem O_9_1 : FF.O 9 1 = false := Eq.trans rfl rfl
@[simp] theorem O_9_2 : FF.O 9 2 = false := Eq.trans rfl rfl
@[simp] theorem O_9_3 : FF.O 9 3 = false := Eq.trans rfl rfl
@[simp] theorem O_9_4 : FF.O 9 4 = false := Eq.trans rfl rfl
@[simp] theorem O_9_5 : FF.O 9 5 = false := Eq.trans rfl rfl
@[simp] theorem O_9_6 : FF.O 9 6 = false := Eq.trans rfl rfl
@[simp] theorem io_10 : FF.io 10 = false := Eq.trans rfl rfl
@[simp] theorem fre_10 : FF.fre 10 = false := Eq.trans rfl rfl
@[simp] theorem O_10_0 : FF.O 10 0 = false := Eq.trans rfl rfl
@[simp] theorem O_10_1 : FF.O 10 1 = false := Eq.trans rfl rfl
@[simp] theorem O_10_2 : FF.O 10 2 = false := Eq.trans rfl rfl
@[simp] theorem O_10_3 : FF.O 10 3 = false := Eq.trans rfl rfl
@[simp] theorem O_10_4 : FF.O 10 4 = false := Eq.trans rfl rfl
@[simp] theorem O_10_5 : FF.O 10 5 = false := Eq.trans rfl rfl
@[simp] theorem O_10_6 : FF.O 10 6 = false := Eq.trans rfl rfl
@[simp] theorem O_10_7 : FF.O 10 7 = false := Eq.trans rfl rfl
@[simp] theorem io_11 : FF.io 11 = false := Eq.trans rfl rfl
@[simp] theorem fre_11 : FF.fre 11 = false := Eq.trans rfl rfl
@[simp] theorem O_11_0 : FF.O 11 0 = false := Eq.trans rfl rfl
@[simp] theorem O_11_1 : FF.O 11 1 = false := Eq.trans rfl rfl
@[simp] theorem O_11_2 : FF.O 11 2 = false := Eq.trans rfl rfl
@[simp] theorem O_11_3 : FF.O 11 3 = false := Eq.trans rfl rfl
@[simp] theorem io_12 : FF.io 12 = false := Eq.trans rfl rfl
@[simp] theorem fre_12 : FF.fre 12 = false := Eq.trans rfl rfl
@[simp] theorem O_12_0 : FF.O 12 0 = false := Eq.trans rfl rfl
@[simp] theorem O_12_1 : FF.O 12 1 = false := Eq.trans rfl rfl
@[simp] theorem O_12_2 : FF.O 12 2 = true := Eq.trans rfl rfl
@[simp] theorem O_12_3 : FF.O 12 3 = false := Eq.trans rfl rfl
@[simp] theorem io_13 : FF.io 13 = false := Eq.trans rfl rfl
@[simp] theorem fre_13 : FF.fre 13 = false := Eq.trans rfl rfl
@[simp] theorem O_13_0 : FF.O 13 0 = false := Eq.trans rfl rfl
@[simp] theorem io_14 : FF.io 14 = false := Eq.trans rfl rfl
@[simp] theorem fre_14 : FF.fre 14 = false := Eq.trans rfl rfl
@[simp] theorem O_14_0 : FF.O 14 0 = false := Eq.trans rfl rfl
@[simp] theorem io_15 : FF.io 15 = false := Eq.trans rfl rfl
@[simp] theorem fre_15 : FF.fre 15 = true := Eq.trans rfl rfl
@[simp] theorem O_15_0 : FF.O 15 0 = false := Eq.trans rfl rfl
@[simp] theorem O_15_1 : FF.O 15 1 = false := Eq.trans rfl rfl
@[simp] theorem O_15_2 : FF.O 15 2 = false := Eq.trans rfl rfl
@[simp] theorem O_15_3 : FF.O 15 3 = false := Eq.trans rfl rfl
@[simp] theorem O_15_4 : FF.O 15 4 = false := Eq.trans rfl rfl
@[simp] theorem O_15_5 : FF.O 15 5 = true := Eq.trans rfl rfl
@[simp] theorem O_15_6 : FF.O 15 6 = false := Eq.trans rfl rfl
@[simp] theorem O_15_7 : FF.O 15 7 = false := Eq.trans rfl rfl
@[simp] theorem io_16 : FF.io 16 = false := Eq.trans rfl rfl
@[simp] theorem fre_16 : FF.fre 16 = false := Eq.trans rfl rfl
@[simp] theorem io_17 : FF.io 17 = false := Eq.trans rfl rfl
@[simp] theorem fre_17 : FF.fre 17 = false := Eq.trans rfl rfl
@[simp] theorem O_17_0 : FF.O 17 0 = false := Eq.trans rfl rfl
@[simp] theorem O_17_1 : FF.O 17 1 = false := Eq.trans rfl rfl
@[simp] theorem O_17_2 : FF.O 17 2 = false := Eq.trans rfl rfl
@[simp] theorem O_17_3 : FF.O 17 3 = false := Eq.trans rfl rfl
@[simp] theorem O_17_4 : FF.O 17 4 = false := Eq.trans rfl rfl
@[simp] theorem O_17_5 : FF.O 17 5 = false := Eq.trans rfl rfl
@[simp] theorem O_17_6 : FF.O 17 6 = false := Eq.trans rfl rfl
@[simp] theorem O_17_7 : FF.O 17 7 = false := Eq.trans rfl rfl
@[simp] theorem io_18 : FF.io 18 = false := Eq.trans rfl rfl
@[simp] theorem fre_18 : FF.fre 18 = false := Eq.trans rfl rfl
@[simp] theorem O_18_0 : FF.O 18 0 = false := Eq.trans rfl rfl
@[simp] theorem O_18_1 : FF.O 18 1 = false := Eq.trans rfl rfl
@[simp] theorem O_18_2 : FF.O 18 2 = false := Eq.trans rfl rfl
@[simp] theorem O_18_3 : FF.O 18 3 = false := Eq.trans rfl rfl
@[simp] theorem O_18_4 : FF.O 18 4 = false := Eq.trans rfl rfl
@[simp] theorem io_19 : FF.io 19 = true := Eq.trans rfl rfl
@[simp] theorem fre_19 : FF.fre 19 = false := Eq.trans rfl rfl
@[simp] theorem O_19_0 : FF.O 19 0 = false := Eq.trans rfl rfl
@[simp] theorem O_19_1 : FF.O 19 1 = false := Eq.trans rfl rfl
@[simp] theorem io_20 : FF.io 20 = true := Eq.trans rfl rfl
@[simp] theorem fre_20 : FF.fre 20 = false := Eq.trans rfl rfl
@[simp] theorem O_20_0 : FF.O 20 0 = false := Eq.trans rfl rfl
@[simp] theorem io_21 : FF.io 21 = true := Eq.trans rfl rfl
@[simp] theorem fre_21 : FF.fre 21 = false := Eq.trans rfl rfl
@[simp] theorem O_21_0 : FF.O 21 0 = false := Eq.trans rfl rfl
@[simp] theorem O_21_1 : FF.O 21 1 = false := Eq.trans rfl rfl
@[simp] theorem O_21_2 : FF.O 21 2 = false := Eq.trans rfl rfl
@[simp] theorem O_21_3 : FF.O 21 3 = false := Eq.trans rfl rfl
@[simp] theorem O_21_4 : FF.O 21 4 = false := Eq.trans rfl rfl
@[simp] theorem O_21_5 : FF.O 21 5 = false := Eq.trans rfl rfl
@[simp] theorem O_21_6 : FF.O 21 6 = false := Eq.trans rfl rfl
@[simp] theorem O_21_7 : FF.O 21 7 = false := Eq.trans rfl rfl
@[simp] theorem O_21_8 : FF.O 21 8 = false := Eq.trans rfl rfl
@[simp] theorem O_21_9 : FF.O 21 9 = false := Eq.trans rfl rfl
@[simp] theorem io_22 : FF.io 22 = true := Eq.trans rfl rfl
@[simp] theorem fre_22 : FF.fre 22 = false := Eq.trans rfl rfl
@[simp] theorem O_22_0 : FF.O 22 0 = false := Eq.trans rfl rfl
@[simp] theorem O_22_1 : FF.O 22 1 = false := Eq.trans rfl rfl
@[simp] theorem O_22_2 : FF.O 22 2 = false := Eq.trans rfl rfl
@[simp] theorem O_22_3 : FF.O 22 3 = false := Eq.trans rfl rfl
@[simp] theorem O_22_4 : FF.O 22 4 = false := Eq.trans rfl rfl
@[simp] theorem O_22_5 : FF.O 22 5 = false := Eq.trans rfl rfl
@[simp] theorem io_23 : FF.io 23 = false := Eq.trans rfl rfl
@[simp] theorem fre_23 : FF.fre 23 = false := Eq.trans rfl rfl
@[simp] theorem O_23_0 : FF.O 23 0 = false := Eq.trans rfl rfl
@[simp] theorem O_23_1 : FF.O 23 1 = false := Eq.trans rfl rfl
@[simp] theorem O_23_2 : FF.O 23 2 = false := Eq.trans rfl rfl
@[simp] theorem O_23_3 : FF.O 23 3 = false := Eq.trans rfl rfl
@[simp] theorem io_24 : FF.io 24 = true := Eq.trans rfl rfl
@[simp] theorem fre_24 : FF.fre 24 = false := Eq.trans rfl rfl
@[simp] theorem O_24_0 : FF.O 24 0 = false := Eq.trans rfl rfl
@[simp] theorem O_24_1 : FF.O 24 1 = false := Eq.trans rfl rfl
@[simp] theorem O_24_2 : FF.O 24 2 = false := Eq.trans rfl rfl
@[simp] theorem O_24_3 : FF.O 24 3 = false := Eq.trans rfl rfl
@[simp] theorem io_25 : FF.io 25 = false := Eq.trans rfl rfl
@[simp] theorem fre_25 : FF.fre 25 = false := Eq.trans rfl rfl
@[simp] theorem O_25_0 : FF.O 25 0 = false := Eq.trans rfl rfl
@[simp] theorem O_25_1 : FF.O 25 1 = false := Eq.trans rfl rfl
@[simp] theorem O_25_2 : FF.O 25 2 = false := Eq.trans rfl rfl
@[simp] theorem O_25_3 : FF.O 25 3 = false := Eq.trans rfl rfl
@[simp] theorem io_26 : FF.io 26 = false := Eq.trans rfl rfl
@[simp] theorem fre_26 : FF.fre 26 = false := Eq.trans rfl rfl
@[simp] theorem O_26_0 : FF.O 26 0 = false := Eq.trans rfl rfl
@[simp] theorem O_26_1 : FF.O 26 1 = false := Eq.trans rfl rfl
@[simp] theorem O_26_2 : FF.O 26 2 = false := Eq.trans rfl rfl
@[simp] theorem io_27 : FF.io 27 = false := Eq.trans rfl rfl
@[simp] theorem fre_27 : FF.fre 27 = false := Eq.trans rfl rfl
@[simp] theorem O_27_0 : FF.O 27 0 = false := Eq.trans rfl rfl
@[simp] theorem O_27_1 : FF.O 27 1 = false := Eq.trans rfl rfl
@[simp] theorem O_27_2 : FF.O 27 2 = false := Eq.trans rfl rfl
@[simp] theorem O_27_3 : FF.O 27 3 = false := Eq.trans rfl rfl
@[simp] theorem O_27_4 : FF.O 27 4 = true := Eq.trans rfl rfl
@[simp] theorem O_27_5 : FF.O 27 5 = false := Eq.trans rfl rfl
@[simp] theorem O_27_6 : FF.O 27 6 = false := Eq.trans rfl rfl
@[simp] theorem O_27_7 : FF.O 27 7 = false := Eq.trans rfl rfl
@[simp] theorem O_27_8 : FF.O 27 8 = false := Eq.trans rfl rfl
@[simp] theorem O_27_9 : FF.O 27 9 = false := Eq.trans rfl rfl
end Dv
end

section
set_option Elab.async false
set_option autoImplicit false
set_option linter.all false
set_option maxRecDepth 100000
/-! V01: the drawing of rows, names, amounts; texts. -/
namespace Dv
open PySem L2
@[simp] theorem sl_val : sizeLine = 16777216 := sizeLine_val
theorem cal_p {F : Fl} {pc : Pc} {f : Nat} {vs : List U} {u : U} {z : Bool} (h : pc f vs [] = .ok u [] z) (io : F.io f = false := by simp) (hv : lcL 0 vs = true := by simp) (lk : List Nat) (σ : Cs) : calU F pc lk f vs σ = .ok u σ false := calU_pure (ws := vs) io h hv
theorem cal_x {F : Fl} {pc : Pc} {f : Nat} {vs : List U} {c : Nat} {fs : List (Str × U)} {z : Bool} (h : pc f vs [] = .exc c fs [] z) (io : F.io f = false := by simp) (hv : lcL 0 vs = true := by simp) (lk : List Nat) (σ : Cs) : calU F pc lk f vs σ = .exc c fs σ false := calU_exc io h hv
theorem ofS_inj {a b : String} : Str.ofString a = Str.ofString b ↔ a = b := by
  constructor
  · intro h
    rw [Str.ofString_eq_toList, Str.ofString_eq_toList] at h
    have h : (a.toList.map Char.toNat) = (b.toList.map Char.toNat) := by simpa using h
    have h2 := List.map_inj_right (f := Char.toNat) (fun x y e => Char.toNat_inj.mp e) |>.mp h
    exact String.toList_inj.mp h2
  · rintro rfl
    rfl
@[simp] theorem ofS_eq (a b : String) : (Str.ofString a = Str.ofString b) = (a = b) := propext ofS_inj
/-- the list of ints is empty -/
theorem eq_nil_ints {σ : Cs} {x : U} {xs : List Int} (h : dref σ x = some (.lst (xs.map U.int))) (hs : x.sc = false) : cmpU .eq σ x (.lst []) = some xs.isEmpty := by
  show eqU σ x (.lst []) = _
  unfold eqU
  rw [if_neg (by rw [hs]; decide), h]
  have e : ∀ xs : List Int, pyL (xs.map U.int) = some (xs.map PyData.int) := fun xs => by
    induction xs with
    | nil => rfl
    | cons x r ih =>
      show (match pyU (.int x), pyL (r.map U.int) with | some x, some xs => some (x :: xs) | _, _ => none) = _
      rw [ih]
      rfl
  have l : ∀ xs : List Int, ldL (xs.map U.int) = 0 := fun xs => by
    induction xs with
    | nil => rfl
    | cons x r ih => show max 0 (ldL (r.map U.int)) = 0; rw [ih]; rfl
  have p : pyU (.lst (xs.map U.int)) = some (.list (xs.map PyData.int)) := by
    show (pyL (xs.map U.int)).map PyData.list = _
    rw [e]
    rfl
  show (match pyU (.lst (xs.map U.int)), pyU (.lst []) with | some d, some e => _ | _, _ => none) = _
  rw [p]
  show (if (SeqAt.shaped (.list (xs.map PyData.int)) && SeqAt.shaped (.list []) && (decide ((U.lst (xs.map U.int)).ld ≤ 4) && decide ((U.lst []).ld ≤ 4))) = true then some (PyData.eqvAll (xs.map PyData.int) []) else none) = _
  have q : (U.lst (xs.map U.int)).ld = 1 := by show ldL (xs.map U.int) + 1 = 1; rw [l]
  rw [shaped_ints, q]
  cases xs <;> rfl
section
variable {G : Gl} {P : Nat → Option Def} {n : Nat}
theorem v14 (hP : P 14 = some Bd.f14) (i : Int) : pcallN G FF P (n + 1) 14 [.int i] [] = .ok (.bl true) [] false := by
  rw [pcall_eq hP rfl]
  simp [Bd.f14, ps_cons, endV_0]
theorem v4 (hP : P 4 = some Bd.f4) (ws : List Str) (k : Nat) : pcallN G FF P (n + 1) 4 [.lst (ws.map U.str), .int k] [] = .ok (.str (ws.getD k "")) [] false := by
  rw [pcall_eq hP rfl]
  by_cases h : k < ws.length
  · simp [Bd.f4, ps_cons, endV_0, atI_natU, h]
  · simp [Bd.f4, ps_cons, endV_0, atI_natU, h]
/-- what is popped, what stays -/
def pop1 (xs : List Int) (many : Int) : Int := match xs.getLast? with
  | some x => x % many
  | none => 0
theorem v19 (hP : P 19 = some Bd.f19) {k : Nat} {xs : List Int} {σ : Cs} (hk : σ[k]? = some (.lst (xs.map U.int))) (hσ : lcL σ.length σ = true) {many : Int} (hm : 0 < many) :
    pcallN G FF P (n + 1) 19 [.cel k, .int many] σ = .ok (.int (pop1 xs many)) (σ.set k (.lst (xs.dropLast.map U.int))) false := by
  rw [pcall_eq hP rfl]
  have e := eq_nil_ints (σ := σ) (x := .cel k) hk rfl
  by_cases hx : xs = []
  · subst hx
    have hself := set_self hk
    simp at hself
    simp [Bd.f19, ps_cons, e, endV_same, hσ, hself, pop1]
  · have hl : (xs.map U.int)[(xs.map U.int).length - 1]? = some (U.int (xs.getLast hx)) := by
      rw [List.getElem?_map, List.length_map, List.getLast_eq_getElem, List.getElem?_eq_getElem (by have := List.length_pos_iff.mpr hx; omega)]
      rfl
    have hb := fun m => bm_pop (m := m) (lk := []) hk hl (by simp)
    have ht := (ty_cel hk).1
    have hp : pop1 xs many = xs.getLast hx % many := by
      unfold pop1
      rw [List.getLast?_eq_some_getLast hx]
    have he : xs.isEmpty = false := by cases xs <;> first | rfl | exact absurd rfl hx
    have hd : (xs.map U.int).dropLast = xs.dropLast.map U.int := by rw [List.map_dropLast]
    simp only [hd] at hb
    have ev := fun i : Int => endV_set (σ := σ) (k := k) (u := .int i) (w := .lst (xs.dropLast.map U.int)) (z := false) rfl (lcL_ints _) hσ
    simp [-List.map_dropLast, Bd.f19, ps_cons, e, ht, hb, hm, he, hp, ev]
end
/-! ### drawn amounts -/
/-- the cell k holds xs -/
def cs (σ : Cs) (k : Nat) (xs : List Int) : Cs := σ.set k (.lst (xs.map U.int))
@[simp] theorem cs_len (σ : Cs) (k : Nat) (xs : List Int) : (cs σ k xs).length = σ.length := by unfold cs; simp
theorem cs_get {σ : Cs} {k : Nat} (hk : k < σ.length) (xs : List Int) : (cs σ k xs)[k]? = some (.lst (xs.map U.int)) := List.getElem?_set_self hk
theorem cs_cs (σ : Cs) (k : Nat) (xs ys : List Int) : (cs σ k xs).set k (.lst (ys.map U.int)) = cs σ k ys := by unfold cs; rw [List.set_set]
theorem cs_lc {σ : Cs} (k : Nat) (xs : List Int) (h : lcL σ.length σ = true) : lcL σ.length (cs σ k xs) = true := lcL_set h (lcL_ints _)
theorem endV_cs {σ : Cs} {k : Nat} {xs : List Int} {u : U} {z : Bool} (hσ : lcL σ.length σ = true) (hu : u.fl = true) : endV false σ.length u (cs σ k xs) z = .ok u (cs σ k xs) z := endV_set hu (lcL_ints _) hσ
inductive K2 where
  | plus | minus | times | least | most | below | same | both | either
def K2.s : K2 → Str
  | .plus => "plus" | .minus => "minus" | .times => "times" | .least => "least" | .most => "most" | .below => "below" | .same => "same" | .both => "both" | .either => "either"
/-- amounts and conditions -/
inductive Am where
  | num (i : Int) | fac (s : Str) | fao (s : Str) (a : Am) | due (s : Str) | kno (s : Str) | pct (i : Int) (a : Am) | ife (c a b : Am) | nt (c : Am) | two (k : K2) (a b : Am)
def Am.u : Am → U
  | .num i => .tup [.str "number", .int i]
  | .fac s => .tup [.str "fact", .str s, .non]
  | .fao s a => .tup [.str "fact", .str s, a.u]
  | .due s => .tup [.str "due", .str s]
  | .kno s => .tup [.str "known", .str s]
  | .pct i a => .tup [.str "percent", .int i, a.u]
  | .ife c a b => .tup [.str "if", c.u, a.u, b.u]
  | .nt c => .tup [.str "not", c.u]
  | .two k a b => .tup [.str k.s, a.u, b.u]
theorem Am.fl : ∀ a : Am, a.u.fl = true
  | .num i => rfl
  | .fac s => rfl
  | .fao s a => by simp [Am.u, Am.fl a]
  | .due s => rfl
  | .kno s => rfl
  | .pct i a => by simp [Am.u, Am.fl a]
  | .ife c a b => by simp [Am.u, Am.fl a, Am.fl b, Am.fl c]
  | .nt c => by simp [Am.u, Am.fl c]
  | .two k a b => by simp [Am.u, Am.fl a, Am.fl b]
@[simp] theorem Am.fl' (a : Am) : a.u.fl = true := a.fl
@[simp] theorem Am.lc' (m : Nat) (a : Am) : a.u.lc m = true := lc_of_fl a.fl
/-- two amounts, two conditions, an amount -/
def K2.ar : K2 → Bool
  | .both => false | .either => false | .below => false | .same => false | _ => true
def K2.jo : K2 → Bool
  | .both => true | .either => true | _ => false
/-- a is an amount (true), a condition (false), over these names -/
def Am.ok (fs rs : List Str) : Bool → Am → Prop
  | true, .num i => -1000000000 < i ∧ i < 1000000000
  | true, .fac s => s ∈ fs
  | true, .fao s a => s ∈ fs ∧ a.ok fs rs true
  | true, .due s => s ∈ rs
  | false, .kno s => s ∈ fs
  | true, .pct i a => 0 ≤ i ∧ i ≤ 1000 ∧ a.ok fs rs true
  | true, .ife c a b => c.ok fs rs false ∧ a.ok fs rs true ∧ b.ok fs rs true
  | false, .nt c => c.ok fs rs false
  | true, .two k a b => k.ar = true ∧ a.ok fs rs true ∧ b.ok fs rs true
  | false, .two k a b => k.ar = false ∧ (if k.jo = true then a.ok fs rs false ∧ b.ok fs rs false else a.ok fs rs true ∧ b.ok fs rs true)
  | _, _ => False
def Am.dep : Am → Nat
  | .fao _ a => a.dep + 1
  | .pct _ a => a.dep + 1
  | .ife c a b => max c.dep (max a.dep b.dep) + 1
  | .nt c => c.dep + 1
  | .two _ a b => max a.dep b.dep + 1
  | _ => 1
theorem pop1_bd (xs : List Int) {many : Int} (h : 0 < many) : 0 ≤ pop1 xs many ∧ pop1 xs many < many := by
  unfold pop1
  split
  · exact ⟨Int.emod_nonneg _ (by omega), Int.emod_lt_of_pos _ h⟩
  · exact ⟨by omega, h⟩
theorem str_at {fs : List Str} {i : Int} (h0 : 0 ≤ i) (h1 : i < fs.length) : ∃ s ∈ fs, atI (fs.map U.str) i = some (.str s) := by
  have e : i = ((i.toNat : Nat) : Int) := by omega
  rw [e, atI_natU]
  have hl : i.toNat < fs.length := by omega
  exact ⟨fs[i.toNat], List.getElem_mem hl, by rw [List.getElem?_map, List.getElem?_eq_getElem hl]; rfl⟩
section
variable {G : Gl} {P : Nat → Option Def} {n : Nat} {σ : Cs} {k : Nat}
theorem v19' (hP : P 19 = some Bd.f19) (hk : k < σ.length) (hσ : lcL σ.length σ = true) (xs : List Int) {many : Int} (hm : 0 < many) :
    pcallN G FF P (n + 1) 19 [.cel k, .int many] (cs σ k xs) = .ok (.int (pop1 xs many)) (cs σ k xs.dropLast) false := by
  rw [v19 hP (cs_get hk xs) (by rw [cs_len]; exact cs_lc k xs hσ) hm, cs_cs]
theorem v20 (h19 : P 19 = some Bd.f19) (h20 : P 20 = some Bd.f20) (hk : k < σ.length) (hσ : lcL σ.length σ = true) (xs : List Int) :
    ∃ i ys, (-1000000000 < i ∧ i < 1000000000) ∧ pcallN G FF P (n + 2) 20 [.cel k] (cs σ k xs) = .ok (.int i) (cs σ k ys) false := by
  have q := fun (xs : List Int) (many : Int) (hm : 0 < many) => v19' (G := G) (n := n) h19 hk hσ xs hm
  rw [pcall_eq h20 rfl]
  have b1 := pop1_bd xs (many := 9) (by decide)
  by_cases h : pop1 xs 9 = 0
  · have a1 := pop1_bd xs.dropLast (many := 1000) (by decide)
    have a2 := pop1_bd xs.dropLast.dropLast (many := 1000) (by decide)
    have a3 := pop1_bd xs.dropLast.dropLast.dropLast (many := 2) (by decide)
    refine ⟨(pop1 xs.dropLast 1000 * 1000000 + pop1 xs.dropLast.dropLast 1000 * 1000 + 7) * (1 - 2 * pop1 xs.dropLast.dropLast.dropLast 2), xs.dropLast.dropLast.dropLast.dropLast, ?_, ?_⟩
    · have : pop1 xs.dropLast.dropLast.dropLast 2 = 0 ∨ pop1 xs.dropLast.dropLast.dropLast 2 = 1 := by omega
      rcases this with e | e <;> rw [e] <;> constructor <;> omega
    · have g1 : -18446744073709551616 < pop1 xs.dropLast 1000 ∧ pop1 xs.dropLast 1000 < 18446744073709551616 := by omega
      have g2 : -18446744073709551616 < pop1 xs.dropLast.dropLast 1000 ∧ pop1 xs.dropLast.dropLast 1000 < 18446744073709551616 := by omega
      have g3 : -18446744073709551616 < pop1 xs.dropLast.dropLast.dropLast 2 ∧ pop1 xs.dropLast.dropLast.dropLast 2 < 18446744073709551616 := by omega
      have g4 : -18446744073709551616 < pop1 xs.dropLast 1000 * 1000000 + pop1 xs.dropLast.dropLast 1000 * 1000 + 7 ∧ pop1 xs.dropLast 1000 * 1000000 + pop1 xs.dropLast.dropLast 1000 * 1000 + 7 < 18446744073709551616 := by omega
      simp [Bd.f20, ps_cons, calU_io, q, h, g1, g2, g3, g4, endV_cs hσ]
  · have a1 := pop1_bd xs.dropLast (many := 60) (by decide)
    refine ⟨pop1 xs.dropLast 60 - 20, xs.dropLast.dropLast, by omega, ?_⟩
    simp [Bd.f20, ps_cons, calU_io, q, h, endV_cs hσ]
/-- amounts and conditions are drawn -/
def Drawn (G : Gl) (P : Nat → Option Def) (σ : Cs) (k : Nat) (fs rs : List Str) (b : Bool) (f d : Nat) : Prop := ∀ (n : Nat) (xs : List Int), d + 3 ≤ n → ∃ (a : Am) (ys : List Int), a.ok fs rs b ∧ a.dep ≤ d + 1 ∧
  pcallN G FF P n f [.cel k, .int d, .lst (fs.map U.str), .lst (rs.map U.str)] (cs σ k xs) = .ok a.u (cs σ k ys) false
theorem v2122 (h19 : P 19 = some Bd.f19) (h20 : P 20 = some Bd.f20) (h21 : P 21 = some Bd.f21) (h22 : P 22 = some Bd.f22) (hk : k < σ.length) (hσ : lcL σ.length σ = true) {fs rs : List Str} (hf : 0 < fs.length) (hr : 0 < rs.length) :
    ∀ d : Nat, Drawn G P σ k fs rs true 21 d ∧ Drawn G P σ k fs rs false 22 d := by
  intro d
  induction d with
  | zero =>
    refine ⟨fun n xs hn => ?_, fun n xs hn => ?_⟩
    · obtain ⟨n, rfl⟩ : ∃ j, n = j + 3 := ⟨n - 3, by omega⟩
      have q := fun (xs : List Int) (many : Int) (hm : 0 < many) => v19' (G := G) (n := n + 1) h19 hk hσ xs hm
      rw [pcall_eq h21 rfl]
      have b1 := pop1_bd xs.dropLast (many := 4) (by decide)
      generalize hkd : pop1 xs.dropLast 4 = kd at b1
      by_cases c0 : kd = 0
      · obtain ⟨i, ys, hi, e⟩ := v20 (G := G) (n := n) h19 h20 hk hσ xs.dropLast.dropLast
        refine ⟨.num i, ys, hi, by simp [Am.dep], ?_⟩
        simp [Bd.f21, ps_cons, calU_io, q, hkd, c0, e, endV_cs hσ, Am.u]
      · by_cases c1 : kd < 3
        · obtain ⟨s, hs, e⟩ := str_at (fs := fs) (pop1_bd xs.dropLast.dropLast (many := fs.length) (by omega)).1 (pop1_bd xs.dropLast.dropLast (many := fs.length) (by omega)).2
          refine ⟨.fac s, xs.dropLast.dropLast.dropLast, hs, by simp [Am.dep], ?_⟩
          simp [Bd.f21, ps_cons, calU_io, q, hkd, c0, c1, e, hf, endV_cs hσ, Am.u]
        · have c2 : kd = 3 := by omega
          obtain ⟨s, hs, e⟩ := str_at (fs := rs) (pop1_bd xs.dropLast.dropLast (many := rs.length) (by omega)).1 (pop1_bd xs.dropLast.dropLast (many := rs.length) (by omega)).2
          refine ⟨.due s, xs.dropLast.dropLast.dropLast, hs, by simp [Am.dep], ?_⟩
          simp [Bd.f21, ps_cons, calU_io, q, hkd, c2, e, hr, endV_cs hσ, Am.u]
    · obtain ⟨n, rfl⟩ : ∃ j, n = j + 3 := ⟨n - 3, by omega⟩
      have q := fun (xs : List Int) (many : Int) (hm : 0 < many) => v19' (G := G) (n := n + 1) h19 hk hσ xs hm
      rw [pcall_eq h22 rfl]
      obtain ⟨s, hs, e⟩ := str_at (fs := fs) (pop1_bd xs.dropLast (many := fs.length) (by omega)).1 (pop1_bd xs.dropLast (many := fs.length) (by omega)).2
      refine ⟨.kno s, xs.dropLast.dropLast, hs, by simp [Am.dep], ?_⟩
      by_cases c0 : pop1 xs 7 = 0
      · simp [Bd.f22, ps_cons, calU_io, q, c0, e, hf, endV_cs hσ, Am.u]
      · simp [Bd.f22, ps_cons, calU_io, q, c0, e, hf, endV_cs hσ, Am.u]
  | succ d ih =>
    obtain ⟨ihA, ihC⟩ := ih
    have d1 : ¬ ((d : Int) + 1 = 0) := by omega
    have d2 : ¬ ((d : Int) + 1 ≤ 0) := by omega
    refine ⟨fun n xs hn => ?_, fun n xs hn => ?_⟩
    · obtain ⟨n, rfl⟩ : ∃ j, n = j + 4 := ⟨n - 4, by omega⟩
      have q := fun (xs : List Int) (many : Int) (hm : 0 < many) => v19' (G := G) (n := n + 2) h19 hk hσ xs hm
      have A := fun xs => ihA (n + 3) xs (by omega)
      have C := fun xs => ihC (n + 3) xs (by omega)
      rw [pcall_eq h21 rfl]
      have b1 := pop1_bd xs (many := 14) (by decide)
      generalize hkd : pop1 xs 14 = kd at b1
      by_cases c0 : kd = 0
      · obtain ⟨i, ys, hi, e⟩ := v20 (G := G) (n := n + 1) h19 h20 hk hσ xs.dropLast
        refine ⟨.num i, ys, hi, by simp [Am.dep], ?_⟩
        simp [Bd.f21, ps_cons, calU_io, q, hkd, c0, e, endV_cs hσ, Am.u, d1]
      by_cases c1 : kd < 3
      · obtain ⟨s, hs, e⟩ := str_at (fs := fs) (pop1_bd xs.dropLast (many := fs.length) (by omega)).1 (pop1_bd xs.dropLast (many := fs.length) (by omega)).2
        refine ⟨.fac s, xs.dropLast.dropLast, hs, by simp [Am.dep], ?_⟩
        simp [Bd.f21, ps_cons, calU_io, q, hkd, c0, c1, e, hf, endV_cs hσ, Am.u, d1]
      by_cases c2 : kd = 3
      · obtain ⟨s, hs, e⟩ := str_at (fs := rs) (pop1_bd xs.dropLast (many := rs.length) (by omega)).1 (pop1_bd xs.dropLast (many := rs.length) (by omega)).2
        refine ⟨.due s, xs.dropLast.dropLast, hs, by simp [Am.dep], ?_⟩
        simp [Bd.f21, ps_cons, calU_io, q, hkd, c2, e, hr, endV_cs hσ, Am.u, d1]
      by_cases c3 : kd = 4
      · obtain ⟨s, hs, e⟩ := str_at (fs := fs) (pop1_bd xs.dropLast (many := fs.length) (by omega)).1 (pop1_bd xs.dropLast (many := fs.length) (by omega)).2
        obtain ⟨a, ys, h1, h2, e1⟩ := A xs.dropLast.dropLast
        refine ⟨.fao s a, ys, ⟨hs, h1⟩, by simp [Am.dep]; omega, ?_⟩
        simp [Bd.f21, ps_cons, calU_io, q, hkd, c3, e, e1, hf, endV_cs hσ, Am.u, d1]
      by_cases c4 : kd = 5
      · have b2 := pop1_bd xs.dropLast (many := 6) (by decide)
        obtain ⟨a, ys, h1, h2, e1⟩ := A xs.dropLast.dropLast
        generalize hj : pop1 xs.dropLast 6 = j at b2
        have : ∃ p : Int, (0 ≤ p ∧ p ≤ 1000) ∧ atI [U.int 0, .int 50, .int 100, .int 33, .int 1000, .int 7] j = some (.int p) := by
          have : j = 0 ∨ j = 1 ∨ j = 2 ∨ j = 3 ∨ j = 4 ∨ j = 5 := by omega
          rcases this with rfl | rfl | rfl | rfl | rfl | rfl
          · exact ⟨0, by decide, rfl⟩
          · exact ⟨50, by decide, rfl⟩
          · exact ⟨100, by decide, rfl⟩
          · exact ⟨33, by decide, rfl⟩
          · exact ⟨1000, by decide, rfl⟩
          · exact ⟨7, by decide, rfl⟩
        obtain ⟨p, hp, e⟩ := this
        refine ⟨.pct p a, ys, ⟨hp.1, hp.2, h1⟩, by simp [Am.dep]; omega, ?_⟩
        simp [Bd.f21, ps_cons, calU_io, q, hkd, c4, hj, e, e1, endV_cs hσ, Am.u, d1]
      by_cases c5 : kd < 9
      · obtain ⟨c, y1, h1, h2, e1⟩ := C xs.dropLast
        obtain ⟨a, y2, h3, h4, e2⟩ := A y1
        obtain ⟨b, y3, h5, h6, e3⟩ := A y2
        refine ⟨.ife c a b, y3, ⟨h1, h3, h5⟩, by simp [Am.dep]; omega, ?_⟩
        simp [Bd.f21, ps_cons, calU_io, q, hkd, c0, c1, c2, c3, c4, c5, e1, e2, e3, endV_cs hσ, Am.u, d1]
      · obtain ⟨a, y2, h3, h4, e2⟩ := A xs.dropLast
        obtain ⟨b, y3, h5, h6, e3⟩ := A y2
        have : ∃ k : K2, k.ar = true ∧ atI [U.str "plus", .str "minus", .str "times", .str "least", .str "most"] (kd - 9) = some (.str k.s) := by
          have : kd = 9 ∨ kd = 10 ∨ kd = 11 ∨ kd = 12 ∨ kd = 13 := by omega
          rcases this with rfl | rfl | rfl | rfl | rfl
          · exact ⟨.plus, rfl, rfl⟩
          · exact ⟨.minus, rfl, rfl⟩
          · exact ⟨.times, rfl, rfl⟩
          · exact ⟨.least, rfl, rfl⟩
          · exact ⟨.most, rfl, rfl⟩
        obtain ⟨kk, hkk, e⟩ := this
        refine ⟨.two kk a b, y3, ⟨hkk, h3, h5⟩, by simp [Am.dep]; omega, ?_⟩
        simp [Bd.f21, ps_cons, calU_io, q, hkd, c0, c1, c2, c3, c4, c5, e, e2, e3, endV_cs hσ, Am.u, d1]
    · obtain ⟨n, rfl⟩ : ∃ j, n = j + 4 := ⟨n - 4, by omega⟩
      have q := fun (xs : List Int) (many : Int) (hm : 0 < many) => v19' (G := G) (n := n + 2) h19 hk hσ xs hm
      have A := fun xs => ihA (n + 3) xs (by omega)
      have C := fun xs => ihC (n + 3) xs (by omega)
      rw [pcall_eq h22 rfl]
      have b1 := pop1_bd xs (many := 7) (by decide)
      generalize hkd : pop1 xs 7 = kd at b1
      by_cases c0 : kd = 0
      · obtain ⟨s, hs, e⟩ := str_at (fs := fs) (pop1_bd xs.dropLast (many := fs.length) (by omega)).1 (pop1_bd xs.dropLast (many := fs.length) (by omega)).2
        refine ⟨.kno s, xs.dropLast.dropLast, hs, by simp [Am.dep], ?_⟩
        simp [Bd.f22, ps_cons, calU_io, q, hkd, c0, e, hf, endV_cs hσ, Am.u]
      by_cases c1 : kd = 1
      · obtain ⟨c, y1, h1, h2, e1⟩ := C xs.dropLast
        refine ⟨.nt c, y1, h1, by simp [Am.dep]; omega, ?_⟩
        simp [Bd.f22, ps_cons, calU_io, q, hkd, c1, e1, endV_cs hσ, Am.u, d2]
      by_cases c2 : kd < 4
      · obtain ⟨a, y2, h3, h4, e2⟩ := C xs.dropLast
        obtain ⟨b, y3, h5, h6, e3⟩ := C y2
        have : ∃ k : K2, (k.ar = false ∧ k.jo = true) ∧ atI [U.str "both", .str "either"] (kd - 2) = some (.str k.s) := by
          have : kd = 2 ∨ kd = 3 := by omega
          rcases this with rfl | rfl
          · exact ⟨.both, ⟨rfl, rfl⟩, rfl⟩
          · exact ⟨.either, ⟨rfl, rfl⟩, rfl⟩
        obtain ⟨kk, hkk, e⟩ := this
        refine ⟨.two kk a b, y3, ⟨hkk.1, by rw [if_pos hkk.2]; exact ⟨h3, h5⟩⟩, by simp [Am.dep]; omega, ?_⟩
        simp [Bd.f22, ps_cons, calU_io, q, hkd, c0, c1, c2, e, e2, e3, endV_cs hσ, Am.u, d2]
      · obtain ⟨a, y2, h3, h4, e2⟩ := A xs.dropLast
        obtain ⟨b, y3, h5, h6, e3⟩ := A y2
        have : ∃ k : K2, (k.ar = false ∧ k.jo = false) ∧ atI [U.str "below", .str "same"] (kd / 6) = some (.str k.s) := by
          have : kd = 4 ∨ kd = 5 ∨ kd = 6 := by omega
          rcases this with rfl | rfl | rfl
          · exact ⟨.below, ⟨rfl, rfl⟩, rfl⟩
          · exact ⟨.below, ⟨rfl, rfl⟩, rfl⟩
          · exact ⟨.same, ⟨rfl, rfl⟩, rfl⟩
        obtain ⟨kk, hkk, e⟩ := this
        refine ⟨.two kk a b, y3, ⟨hkk.1, by rw [if_neg (by rw [hkk.2]; decide)]; exact ⟨h3, h5⟩⟩, by simp [Am.dep]; omega, ?_⟩
        simp [Bd.f22, ps_cons, calU_io, q, hkd, c0, c1, c2, e, e2, e3, endV_cs hσ, Am.u, d2]
end
end Dv
end

section
set_option Elab.async false
set_option autoImplicit false
set_option linter.all false
set_option maxRecDepth 100000
/-! V02: the words of an amount. -/
namespace Dv
open PySem L2
def Am.ws : Am → List Str
  | .num i => [toString i]
  | .fac s => ["fact", s]
  | .fao s a => "fact" :: s :: "or" :: a.ws
  | .due s => ["due", s]
  | .kno s => ["known", s]
  | .pct i a => "percent" :: toString i :: a.ws
  | .ife c a b => "if" :: (c.ws ++ (a.ws ++ b.ws))
  | .nt c => "not" :: c.ws
  | .two k a b => k.s :: (a.ws ++ b.ws)
/-- its numbers are no larger than what str is told of -/
def Am.sm : Am → Prop
  | .num i => -18446744073709551616 < i ∧ i < 18446744073709551616
  | .fao _ a => a.sm
  | .pct i a => (-18446744073709551616 < i ∧ i < 18446744073709551616) ∧ a.sm
  | .ife c a b => c.sm ∧ a.sm ∧ b.sm
  | .nt c => c.sm
  | .two _ a b => a.sm ∧ b.sm
  | _ => True
theorem Am.sm_of {fs rs : List Str} : ∀ (a : Am) (b : Bool), a.ok fs rs b → a.sm
  | .num i, true, h => by simp [Am.ok] at h; simp [Am.sm]; omega
  | .num i, false, h => by simp [Am.ok] at h
  | .fac s, _, _ => trivial
  | .fao s a, true, h => a.sm_of true h.2
  | .fao s a, false, h => by simp [Am.ok] at h
  | .due s, _, _ => trivial
  | .kno s, _, _ => trivial
  | .pct i a, true, h => ⟨by have := h.1; have := h.2.1; omega, a.sm_of true h.2.2⟩
  | .pct i a, false, h => by simp [Am.ok] at h
  | .ife c a b, true, h => ⟨c.sm_of false h.1, a.sm_of true h.2.1, b.sm_of true h.2.2⟩
  | .ife c a b, false, h => by simp [Am.ok] at h
  | .nt c, true, h => by simp [Am.ok] at h
  | .nt c, false, h => c.sm_of false h
  | .two k a b, true, h => ⟨a.sm_of true h.2.1, b.sm_of true h.2.2⟩
  | .two k a b, false, h => by
    simp only [Am.ok] at h
    obtain ⟨_, h⟩ := h
    split at h
    · exact ⟨a.sm_of false h.1, b.sm_of false h.2⟩
    · exact ⟨a.sm_of true h.1, b.sm_of true h.2⟩
theorem Am.ws_le : ∀ a : Am, a.ws.length ≤ 4 ^ a.dep
  | .num i => by simp [Am.ws, Am.dep]
  | .fac s => by simp [Am.ws, Am.dep]
  | .fao s a => by have := a.ws_le; have p := Nat.one_le_two_pow (n := 0); have : 1 ≤ 4 ^ a.dep := Nat.one_le_pow _ _ (by decide); simp [Am.ws, Am.dep, Nat.pow_succ]; omega
  | .due s => by simp [Am.ws, Am.dep]
  | .kno s => by simp [Am.ws, Am.dep]
  | .pct i a => by have := a.ws_le; have : 1 ≤ 4 ^ a.dep := Nat.one_le_pow _ _ (by decide); simp [Am.ws, Am.dep, Nat.pow_succ]; omega
  | .ife c a b => by
    have h1 := c.ws_le
    have h2 := a.ws_le
    have h3 := b.ws_le
    have m1 : 4 ^ c.dep ≤ 4 ^ (max c.dep (max a.dep b.dep)) := Nat.pow_le_pow_right (by decide) (by omega)
    have m2 : 4 ^ a.dep ≤ 4 ^ (max c.dep (max a.dep b.dep)) := Nat.pow_le_pow_right (by decide) (by omega)
    have m3 : 4 ^ b.dep ≤ 4 ^ (max c.dep (max a.dep b.dep)) := Nat.pow_le_pow_right (by decide) (by omega)
    have : 1 ≤ 4 ^ (max c.dep (max a.dep b.dep)) := Nat.one_le_pow _ _ (by decide)
    simp only [Am.ws, Am.dep, Nat.pow_succ, List.length_cons, List.length_append]
    omega
  | .nt c => by have := c.ws_le; have : 1 ≤ 4 ^ c.dep := Nat.one_le_pow _ _ (by decide); simp [Am.ws, Am.dep, Nat.pow_succ]; omega
  | .two k a b => by
    have h2 := a.ws_le
    have h3 := b.ws_le
    have m2 : 4 ^ a.dep ≤ 4 ^ (max a.dep b.dep) := Nat.pow_le_pow_right (by decide) (by omega)
    have m3 : 4 ^ b.dep ≤ 4 ^ (max a.dep b.dep) := Nat.pow_le_pow_right (by decide) (by omega)
    have : 1 ≤ 4 ^ (max a.dep b.dep) := Nat.one_le_pow _ _ (by decide)
    simp only [Am.ws, Am.dep, Nat.pow_succ, List.length_cons, List.length_append]
    omega
theorem Am.ws_bd {a : Am} (h : a.dep ≤ 8) : a.ws.length ≤ 65536 := Nat.le_trans a.ws_le (Nat.le_trans (Nat.pow_le_pow_right (by decide) h) (by decide))
theorem cut1 {α : Type} (x : α) (xs : List α) : cutG (x :: xs) (some 1) none = xs := by
  have e1 : HT.sIx (x :: xs).length 0 (some 1) = 1 := by
    unfold HT.sIx
    simp
  have e2 : HT.sIx (x :: xs).length (x :: xs).length none = (x :: xs).length := by
    unfold HT.sIx
    simp
  unfold cutG
  rw [e1, e2]
  simp
@[simp] theorem K2.n1 (k : K2) : (k.s = Str.ofString "number") = False := by cases k <;> simp [K2.s]
@[simp] theorem K2.n2 (k : K2) : (k.s = Str.ofString "fact") = False := by cases k <;> simp [K2.s]
@[simp] theorem K2.n3 (k : K2) : (k.s = Str.ofString "due") = False := by cases k <;> simp [K2.s]
@[simp] theorem K2.n4 (k : K2) : (k.s = Str.ofString "known") = False := by cases k <;> simp [K2.s]
@[simp] theorem K2.n5 (k : K2) : (k.s = Str.ofString "percent") = False := by cases k <;> simp [K2.s]
@[simp] theorem K2.n6 (k : K2) : (k.s = Str.ofString "if") = False := by cases k <;> simp [K2.s]
@[simp] theorem K2.n7 (k : K2) : (k.s = Str.ofString "not") = False := by cases k <;> simp [K2.s]
section
variable {G : Gl} {P : Nat → Option Def}
@[simp] theorem Am.non {σ : Cs} (a : Am) : cmpU .iss σ a.u .non = some false := by cases a <;> simp [Am.u]
theorem v23 (hP : P 23 = some Bd.f23) : ∀ (a : Am) (n : Nat), a.sm → a.dep ≤ 8 → a.dep ≤ n → pcallN G FF P n 23 [a.u] [] = .ok (.lst (a.ws.map U.str)) [] false := by
  intro a
  induction a with
  | num i =>
    intro n s h hn
    obtain ⟨n, rfl⟩ : ∃ j, n = j + 1 := ⟨n - 1, by simp [Am.dep] at hn; omega⟩
    rw [pcall_eq hP rfl]
    simp [Bd.f23, ps_cons, Am.u, atI, ixN, endV_0, Am.ws, s.1, s.2]
  | fac t =>
    intro n s h hn
    obtain ⟨n, rfl⟩ : ∃ j, n = j + 1 := ⟨n - 1, by simp [Am.dep] at hn; omega⟩
    rw [pcall_eq hP rfl]
    simp [Bd.f23, ps_cons, Am.u, atI, ixN, endV_0, Am.ws]
  | due t =>
    intro n s h hn
    obtain ⟨n, rfl⟩ : ∃ j, n = j + 1 := ⟨n - 1, by simp [Am.dep] at hn; omega⟩
    rw [pcall_eq hP rfl]
    simp [Bd.f23, ps_cons, Am.u, atI, ixN, endV_0, Am.ws]
  | kno t =>
    intro n s h hn
    obtain ⟨n, rfl⟩ : ∃ j, n = j + 1 := ⟨n - 1, by simp [Am.dep] at hn; omega⟩
    rw [pcall_eq hP rfl]
    simp [Bd.f23, ps_cons, Am.u, atI, ixN, endV_0, Am.ws]
  | fao t a ih =>
    intro n s h hn
    obtain ⟨n, rfl⟩ : ∃ j, n = j + 1 := ⟨n - 1, by simp [Am.dep] at hn; omega⟩
    have e := ih n s (by simp [Am.dep] at h; omega) (by simp [Am.dep] at hn; omega)
    have l := Am.ws_bd (a := a) (by simp [Am.dep] at h; omega)
    have l2 : 3 + a.ws.length ≤ 16777216 := by omega
    rw [pcall_eq hP rfl]
    simp [Bd.f23, ps_cons, Am.u, atI, ixN, endV_0, Am.ws, cal_p (F := FF) e, l2]
  | pct i a ih =>
    intro n s h hn
    obtain ⟨n, rfl⟩ : ∃ j, n = j + 1 := ⟨n - 1, by simp [Am.dep] at hn; omega⟩
    have e := ih n s.2 (by simp [Am.dep] at h; omega) (by simp [Am.dep] at hn; omega)
    have l := Am.ws_bd (a := a) (by simp [Am.dep] at h; omega)
    have l2 : 2 + a.ws.length ≤ 16777216 := by omega
    rw [pcall_eq hP rfl]
    simp [Bd.f23, ps_cons, Am.u, atI, ixN, endV_0, Am.ws, cal_p (F := FF) e, l2, s.1.1, s.1.2]
  | ife c a b i0 i1 i2 =>
    intro n s h hn
    obtain ⟨n, rfl⟩ : ∃ j, n = j + 1 := ⟨n - 1, by simp [Am.dep] at hn; omega⟩
    have e0 := i0 n s.1 (by simp [Am.dep] at h; omega) (by simp [Am.dep] at hn; omega)
    have e1 := i1 n s.2.1 (by simp [Am.dep] at h; omega) (by simp [Am.dep] at hn; omega)
    have e2 := i2 n s.2.2 (by simp [Am.dep] at h; omega) (by simp [Am.dep] at hn; omega)
    have l0 := Am.ws_bd (a := c) (by simp [Am.dep] at h; omega)
    have l1 := Am.ws_bd (a := a) (by simp [Am.dep] at h; omega)
    have l2 := Am.ws_bd (a := b) (by simp [Am.dep] at h; omega)
    have l3 : 1 + c.ws.length ≤ 16777216 := by omega
    have l4 : c.ws.length + 1 + a.ws.length ≤ 16777216 := by omega
    have l5 : c.ws.length + a.ws.length + 1 + b.ws.length ≤ 16777216 := by omega
    rw [pcall_eq hP rfl]
    simp [Bd.f23, ps_cons, Am.u, atI, ixN, endV_0, Am.ws, cal_p (F := FF) e0, cal_p (F := FF) e1, cal_p (F := FF) e2, cut1, forU_cons, forU_nil, l3, l4, l5, lcL_app]
  | nt a ih =>
    intro n s h hn
    obtain ⟨n, rfl⟩ : ∃ j, n = j + 1 := ⟨n - 1, by simp [Am.dep] at hn; omega⟩
    have e := ih n s (by simp [Am.dep] at h; omega) (by simp [Am.dep] at hn; omega)
    have l := Am.ws_bd (a := a) (by simp [Am.dep] at h; omega)
    have l2 : 1 + a.ws.length ≤ 16777216 := by omega
    rw [pcall_eq hP rfl]
    simp [Bd.f23, ps_cons, Am.u, atI, ixN, endV_0, Am.ws, cal_p (F := FF) e, cut1, forU_cons, forU_nil, l2]
  | two k a b i1 i2 =>
    intro n s h hn
    obtain ⟨n, rfl⟩ : ∃ j, n = j + 1 := ⟨n - 1, by simp [Am.dep] at hn; omega⟩
    have e1 := i1 n s.1 (by simp [Am.dep] at h; omega) (by simp [Am.dep] at hn; omega)
    have e2 := i2 n s.2 (by simp [Am.dep] at h; omega) (by simp [Am.dep] at hn; omega)
    have l1 := Am.ws_bd (a := a) (by simp [Am.dep] at h; omega)
    have l2 := Am.ws_bd (a := b) (by simp [Am.dep] at h; omega)
    have l3 : 1 + a.ws.length ≤ 16777216 := by omega
    have l4 : a.ws.length + 1 + b.ws.length ≤ 16777216 := by omega
    rw [pcall_eq hP rfl]
    simp [Bd.f23, ps_cons, Am.u, atI, ixN, endV_0, Am.ws, cal_p (F := FF) e1, cal_p (F := FF) e2, cut1, forU_cons, forU_nil, l3, l4, lcL_app]
/-- the program's words are the same -/
theorem v12 (hP : P 12 = some Bd.f12) : ∀ (a : Am) (n : Nat), a.sm → a.dep ≤ 8 → a.dep ≤ n → pcallN G FF P n 12 [a.u] [] = .ok (.lst (a.ws.map U.str)) [] false := by
  intro a
  induction a with
  | num i =>
    intro n s h hn
    obtain ⟨n, rfl⟩ : ∃ j, n = j + 1 := ⟨n - 1, by simp [Am.dep] at hn; omega⟩
    rw [pcall_eq hP rfl]
    simp [Bd.f12, ps_cons, Am.u, atI, ixN, endV_0, Am.ws, s.1, s.2]
  | fac t =>
    intro n s h hn
    obtain ⟨n, rfl⟩ : ∃ j, n = j + 1 := ⟨n - 1, by simp [Am.dep] at hn; omega⟩
    rw [pcall_eq hP rfl]
    simp [Bd.f12, ps_cons, Am.u, atI, ixN, endV_0, Am.ws]
  | due t =>
    intro n s h hn
    obtain ⟨n, rfl⟩ : ∃ j, n = j + 1 := ⟨n - 1, by simp [Am.dep] at hn; omega⟩
    rw [pcall_eq hP rfl]
    simp [Bd.f12, ps_cons, Am.u, atI, ixN, endV_0, Am.ws]
  | kno t =>
    intro n s h hn
    obtain ⟨n, rfl⟩ : ∃ j, n = j + 1 := ⟨n - 1, by simp [Am.dep] at hn; omega⟩
    rw [pcall_eq hP rfl]
    simp [Bd.f12, ps_cons, Am.u, atI, ixN, endV_0, Am.ws]
  | fao t a ih =>
    intro n s h hn
    obtain ⟨n, rfl⟩ : ∃ j, n = j + 1 := ⟨n - 1, by simp [Am.dep] at hn; omega⟩
    have e := ih n s (by simp [Am.dep] at h; omega) (by simp [Am.dep] at hn; omega)
    have l := Am.ws_bd (a := a) (by simp [Am.dep] at h; omega)
    have l2 : 3 + a.ws.length ≤ 16777216 := by omega
    rw [pcall_eq hP rfl]
    simp [Bd.f12, ps_cons, Am.u, atI, ixN, endV_0, Am.ws, cal_p (F := FF) e, l2]
  | pct i a ih =>
    intro n s h hn
    obtain ⟨n, rfl⟩ : ∃ j, n = j + 1 := ⟨n - 1, by simp [Am.dep] at hn; omega⟩
    have e := ih n s.2 (by simp [Am.dep] at h; omega) (by simp [Am.dep] at hn; omega)
    have l := Am.ws_bd (a := a) (by simp [Am.dep] at h; omega)
    have l2 : 2 + a.ws.length ≤ 16777216 := by omega
    rw [pcall_eq hP rfl]
    simp [Bd.f12, ps_cons, Am.u, atI, ixN, endV_0, Am.ws, cal_p (F := FF) e, l2, s.1.1, s.1.2]
  | ife c a b i0 i1 i2 =>
    intro n s h hn
    obtain ⟨n, rfl⟩ : ∃ j, n = j + 1 := ⟨n - 1, by simp [Am.dep] at hn; omega⟩
    have e0 := i0 n s.1 (by simp [Am.dep] at h; omega) (by simp [Am.dep] at hn; omega)
    have e1 := i1 n s.2.1 (by simp [Am.dep] at h; omega) (by simp [Am.dep] at hn; omega)
    have e2 := i2 n s.2.2 (by simp [Am.dep] at h; omega) (by simp [Am.dep] at hn; omega)
    have l0 := Am.ws_bd (a := c) (by simp [Am.dep] at h; omega)
    have l1 := Am.ws_bd (a := a) (by simp [Am.dep] at h; omega)
    have l2 := Am.ws_bd (a := b) (by simp [Am.dep] at h; omega)
    have l3 : 1 + c.ws.length ≤ 16777216 := by omega
    have l4 : c.ws.length + 1 + a.ws.length ≤ 16777216 := by omega
    have l5 : c.ws.length + a.ws.length + 1 + b.ws.length ≤ 16777216 := by omega
    rw [pcall_eq hP rfl]
    simp [Bd.f12, ps_cons, Am.u, atI, ixN, Am.ws, cal_p (F := FF) e0, cal_p (F := FF) e1, cal_p (F := FF) e2, cut1, forU_cons, forU_nil, l3, l4, l5, lcL_app, freshE, bmU, putC, bmTyU, lstU]
    exact endV_c rfl (by simp [lcL_app])
  | nt a ih =>
    intro n s h hn
    obtain ⟨n, rfl⟩ : ∃ j, n = j + 1 := ⟨n - 1, by simp [Am.dep] at hn; omega⟩
    have e := ih n s (by simp [Am.dep] at h; omega) (by simp [Am.dep] at hn; omega)
    have l := Am.ws_bd (a := a) (by simp [Am.dep] at h; omega)
    have l2 : 1 + a.ws.length ≤ 16777216 := by omega
    rw [pcall_eq hP rfl]
    simp [Bd.f12, ps_cons, Am.u, atI, ixN, Am.ws, cal_p (F := FF) e, cut1, forU_cons, forU_nil, l2, freshE, bmU, putC, bmTyU, lstU]
    exact endV_c rfl (by simp [lcL_app])
  | two k a b i1 i2 =>
    intro n s h hn
    obtain ⟨n, rfl⟩ : ∃ j, n = j + 1 := ⟨n - 1, by simp [Am.dep] at hn; omega⟩
    have e1 := i1 n s.1 (by simp [Am.dep] at h; omega) (by simp [Am.dep] at hn; omega)
    have e2 := i2 n s.2 (by simp [Am.dep] at h; omega) (by simp [Am.dep] at hn; omega)
    have l1 := Am.ws_bd (a := a) (by simp [Am.dep] at h; omega)
    have l2 := Am.ws_bd (a := b) (by simp [Am.dep] at h; omega)
    have l3 : 1 + a.ws.length ≤ 16777216 := by omega
    have l4 : a.ws.length + 1 + b.ws.length ≤ 16777216 := by omega
    rw [pcall_eq hP rfl]
    simp [Bd.f12, ps_cons, Am.u, atI, ixN, Am.ws, cal_p (F := FF) e1, cal_p (F := FF) e2, cut1, forU_cons, forU_nil, l3, l4, lcL_app, freshE, bmU, putC, bmTyU, lstU]
    exact endV_c rfl (by simp [lcL_app])
/-- the text: the words, one space between them -/
theorem v13 (h12 : P 12 = some Bd.f12) (h13 : P 13 = some Bd.f13) {a : Am} {n : Nat} (s : a.sm) (h : a.dep ≤ 8) (hn : a.dep ≤ n) (hl : (a.ws.map (·.length)).sum + a.ws.length ≤ 16777216) : pcallN G FF P (n + 1) 13 [a.u] [] = .ok (.str (Txt.join " " a.ws)) [] false := by
  have e := v12 (G := G) h12 a n s h hn
  have st : strsU (a.ws.map U.str) = some a.ws := by
    generalize a.ws = l
    induction l with
    | nil => rfl
    | cons x r ih => show (strsU (r.map U.str)).map (x :: ·) = _; rw [ih]; rfl
  have hb : bmU [] 0 .join [] (.str " ") [.lst (a.ws.map U.str)] = .ok (.str (Txt.join " " a.ws)) [] false := by
    unfold bmU
    simp only [lstU_lst, Option.bind_some, st]
    rw [if_pos (by show (a.ws.map (·.length)).sum + a.ws.length * 1 ≤ 16777216; omega)]
  rw [pcall_eq h13 rfl]
  simp [Bd.f13, ps_cons, cal_p (F := FF) e, hb, endV_0, bmTyU]
end
end Dv
end

section
set_option Elab.async false
set_option autoImplicit false
set_option linter.all false
set_option maxRecDepth 100000
/-! V03: names, numbers, the parser. -/
namespace Dv
open PySem L2
/-! ### the module's constants -/
def LET : Str := "abcdefghijklmnopqrstuvwxyz"
def DIG : Str := "0123456789"
def KEPT : List Str := ["fact", "known", "due", "or", "plus", "minus", "times", "least", "most", "percent", "if", "below", "same", "not", "both", "either"]
structure GC (G : Gl) : Prop where
  c0 : G.con 0 = some (.str LET)
  c1 : G.con 1 = some (.str DIG)
  c2 : G.con 2 = some (.ktp KEPT)
  c3 : G.con 3 = some (.int 12)
  c4 : G.con 4 = some (.int 9)
  c5 : G.con 5 = some (.ktp ["plus", "minus", "times", "least", "most"])
  c6 : G.con 6 = some (.ktp ["below", "same"])
  c7 : G.con 7 = some (.ktp ["both", "either"])
  c8 : G.con 8 = some (.int 40)
  c9 : G.con 9 = some (.int 1000)
  x1 : G.exi 1 = some [("at" : Str)]
  x2 : G.exi 2 = none
@[simp] theorem ofC_int (i : Int) : ofC (.int i) = some (.int i) := Eq.trans rfl rfl
@[simp] theorem ofC_str (i : Str) : ofC (.str i) = some (.str i) := Eq.trans rfl rfl
@[simp] theorem ofC_ktp (i : List Str) : ofC (.ktp i) = some (.ktp i) := Eq.trans rfl rfl
@[simp] theorem in_chr (σ : Cs) (c : Nat) (z : Str) : inU σ (.str ⟨#[c]⟩) (.str z) = some (decide (c ∈ z.cps.toList)) := Eq.trans rfl rfl
@[simp] theorem in_ktp (σ : Cs) (w : Str) (ys : List Str) : inU σ (.str w) (.ktp ys) = some (decide (w ∈ ys)) := by
  show some (ys.any fun y => y == w) = _
  congr 1
  induction ys with
  | nil => rfl
  | cons y r ih =>
    rw [List.any_cons, ih]
    by_cases h : w = y
    · subst h; simp
    · have h' : ¬ y = w := fun z => h z.symm
      simp [h, h']
/-! ### a loop that looks for something -/
def lastO {γ : Type} (g : γ → U) (o : Option U) (xs : List γ) : Option U := match xs.getLast? with
  | some x => some (g x)
  | none => o
theorem forU_any {γ : Type} (E : Option U → UE) (g : γ → U) (bad : γ → Bool) (r : U) {i : Nat} {body : UE → Cs → PR} {σ : Cs} : ∀ {xs : List γ} {o : Option U}, (∀ o x, (E o).set i (some x) = E (some x)) →
    (∀ x ∈ xs, body (E (some (g x))) σ = if bad x = true then .rt r σ false else .nx (E (some (g x))) σ false) → forU [i] true body (xs.map g) (E o) σ = if xs.any bad = true then .rt r σ false else .nx (E (lastO g o xs)) σ false
  | [], o, hE, hb => by simp [forU_nil, lastO]
  | x :: xs, o, hE, hb => by
    rw [List.map_cons, forU_cons, bindTU_one, hE]
    simp only
    rw [hb x List.mem_cons_self]
    cases h : bad x with
    | true => simp [h]
    | false =>
      have ih := forU_any E g bad r (o := some (g x)) (xs := xs) hE fun y hy => hb y (List.mem_cons_of_mem _ hy)
      simp only [pr_then_if, if_neg (show ¬ (false = true) by decide), pr_then_nx, pr_or_false]
      rw [ih]
      simp only [List.any_cons, h, Bool.false_or]
      have : lastO g (some (g x)) xs = lastO g o (x :: xs) := by
        unfold lastO
        cases xs with
        | nil => rfl
        | cons y r => simp [List.getLast?_cons]
      rw [this]
/-! ### what the program takes for a name, a number -/
abbrev chrs (w : Str) : List Nat := w.cps.toList
def alnum (c : Nat) : Bool := decide (c ∈ LET.cps.toList) || decide (c ∈ DIG.cps.toList)
def nameB (w : Str) : Bool := (decide (1 ≤ w.length) && decide (w.length ≤ 12)) && (!decide (w ∈ KEPT)) && (match (chrs w).head? with | some c => decide (c ∈ chrs LET) | none => false) && (chrs w).all alnum
theorem len_chrs (w : Str) : w.length = (chrs w).length := by unfold chrs Str.length; simp
theorem all_any (p : Nat → Bool) : ∀ l : List Nat, l.all p = !(l.any fun c => !p c)
  | [] => rfl
  | c :: r => by rw [List.all_cons, List.any_cons, all_any p r]; cases p c <;> simp
section
variable {G : Gl} {P : Nat → Option Def} {n : Nat}
theorem v2 (g : GC G) (hP : P 2 = some Bd.f2) (w : Str) (hw : w.length ≤ 16777216) : pcallN G FF P (n + 1) 2 [.str w] [] = .ok (.bl (nameB w)) [] false := by
  rw [pcall_eq hP rfl]
  by_cases h1 : (1 : Int) ≤ w.length
  · by_cases h2 : (w.length : Int) ≤ 12
    · by_cases h3 : w ∈ KEPT
      · have : nameB w = false := by unfold nameB; simp [h3]
        simp [Bd.f2, ps_cons, g.c0, g.c1, g.c2, g.c3, hw, h1, h2, h3, endV_0, this]
      · obtain ⟨c, r, hc⟩ : ∃ c r, w.cps.toList = c :: r := by
          cases hc : w.cps.toList with
          | nil => rw [len_chrs] at h1; unfold chrs at h1; rw [hc] at h1; simp at h1
          | cons c r => exact ⟨c, r, rfl⟩
        have e1 : atI w.cps.toList 0 = some c := by
          show atI w.cps.toList ((0 : Nat) : Int) = _
          rw [atI_natU, hc]
          rfl
        have hh : (w.cps.toList).head? = some c := by rw [hc]; rfl
        have a1 : 1 ≤ w.length := by omega
        have a2 : w.length ≤ 12 := by omega
        have hn : nameB w = (decide (c ∈ LET.cps.toList) && !(w.cps.toList.any fun c => !alnum c)) := by
          unfold nameB
          rw [all_any, decide_eq_true a1, decide_eq_true a2, decide_eq_false h3, hh]
          rfl
        rw [hn]
        by_cases h4 : c ∈ LET.cps.toList
        · simp [-Array.mem_toList_iff, -Array.any_toList, -List.any_eq_true, -List.any_eq_false, Bd.f2, ps_cons, g.c0, g.c1, g.c2, g.c3, hw, h1, h2, h3, h4, e1]
          rw [forU_any (fun o => [some (U.str w), o]) (fun c => U.str ⟨#[c]⟩) (fun c => !alnum c) (.bl false) (i := 1) (fun _ _ => rfl)]
          · generalize (w.cps.toList.any fun c => !alnum c) = q
            cases q <;> simp [ps_cons, endV_0]
          · intro c hc
            unfold alnum
            by_cases k1 : c ∈ LET.cps.toList <;> by_cases k2 : c ∈ DIG.cps.toList <;> simp [-Array.mem_toList_iff, ps_cons, g.c0, g.c1, k1, k2]
        · simp [-Array.mem_toList_iff, Bd.f2, ps_cons, g.c0, g.c1, g.c2, g.c3, hw, h1, h2, h3, h4, endV_0, e1]
    · have : nameB w = false := by unfold nameB; simp; omega
      simp [Bd.f2, ps_cons, g.c0, g.c1, g.c2, g.c3, hw, h1, h2, endV_0, this]
  · have : nameB w = false := by unfold nameB; simp; omega
    simp [Bd.f2, ps_cons, g.c0, g.c1, g.c2, g.c3, hw, h1, endV_0, this]
/-- the digits of a word -/
def digs (w : Str) : Str := if Txt.startswith w "-" = true then cutS w (some 1) none else w
def numB (w : Str) : Bool := (decide (1 ≤ (digs w).length) && decide ((digs w).length ≤ 9)) && ((chrs (digs w)).all fun c => decide (c ∈ DIG.cps.toList)) && (!decide ((chrs (digs w)).head? = some 48) || decide (w = "0"))
theorem v3 (g : GC G) (hP : P 3 = some Bd.f3) (w : Str) (hw : w.length ≤ 16777216) (hd : (digs w).length ≤ 16777216) : pcallN G FF P (n + 1) 3 [.str w] [] = .ok (.bl (numB w)) [] false := by
  rw [pcall_eq hP rfl]
  have hs : ∀ m, bmU [] m .startswith [] (.str w) [.str "-"] = .ok (.bl (Txt.startswith w "-")) [] false := fun m => rfl
  have core : ∀ z : Str, z.length ≤ 16777216 → numB w = ((decide (1 ≤ z.length) && decide (z.length ≤ 9)) && ((chrs z).all fun c => decide (c ∈ DIG.cps.toList)) && (!decide ((chrs z).head? = some 48) || decide (w = "0"))) →
      endR false 0 (pS G FF (pcallN G FF P n) 0 3 (match Bd.f3.body with | .cons _ (.cons _ r) => r | _ => .nil) none [] [some (.str w), some (.str z), none] []) = .ok (.bl (numB w)) [] false := by
    intro z hz hn
    rw [hn]
    by_cases h1 : (1 : Int) ≤ z.length
    · by_cases h2 : (z.length : Int) ≤ 9
      · obtain ⟨c, r, hc⟩ : ∃ c r, z.cps.toList = c :: r := by
          cases hc : z.cps.toList with
          | nil => rw [len_chrs] at h1; unfold chrs at h1; rw [hc] at h1; simp at h1
          | cons c r => exact ⟨c, r, rfl⟩
        have e1 : atI z.cps.toList 0 = some c := by
          show atI z.cps.toList ((0 : Nat) : Int) = _
          rw [atI_natU, hc]
          rfl
        have a1 : 1 ≤ z.length := by omega
        have a2 : z.length ≤ 9 := by omega
        have hh : (z.cps.toList).head? = some c := by rw [hc]; rfl
        rw [all_any, decide_eq_true a1, decide_eq_true a2, hh]
        simp [-Array.mem_toList_iff, -Array.any_toList, -List.any_eq_true, -List.any_eq_false, Bd.f3, ps_cons, g.c1, g.c4, hz, h1, h2, e1]
        rw [forU_any (fun o => [some (U.str w), some (U.str z), o]) (fun c => U.str ⟨#[c]⟩) (fun c => !decide (c ∈ DIG.cps.toList)) (.bl false) (i := 2) (fun _ _ => rfl)]
        · generalize (z.cps.toList.any fun c => !decide (c ∈ DIG.cps.toList)) = q
          have e0 : (⟨#[c]⟩ : Str) = Str.ofString "0" ↔ c = 48 := by
            rw [show Str.ofString "0" = ⟨#[48]⟩ from by decide +kernel]
            simp
          by_cases k : c = 48
          · subst k
            have e48 : (⟨#[48]⟩ : Str) = Str.ofString "0" := by decide +kernel
            cases q <;> by_cases k2 : w = Str.ofString "0" <;> simp [ps_cons, endV_0, hz, e1, e48, k2]
          · have e48 : ¬ (⟨#[c]⟩ : Str) = Str.ofString "0" := fun z => k (e0.mp z)
            cases q <;> simp [ps_cons, endV_0, hz, e1, e48, k]
        · intro c hc
          by_cases k2 : c ∈ DIG.cps.toList <;> simp [-Array.mem_toList_iff, ps_cons, g.c0, g.c1, k2]
      · have : ¬ z.length ≤ 9 := by omega
        simp [Bd.f3, ps_cons, g.c1, g.c4, hz, h1, h2, endV_0, this]
    · have : ¬ 1 ≤ z.length := by omega
      simp [Bd.f3, ps_cons, g.c1, g.c4, hz, h1, endV_0, this]
  by_cases hm : Txt.startswith w "-" = true
  · have ed : digs w = cutS w (some 1) none := by unfold digs; rw [if_pos hm]
    have q := core (cutS w (some 1) none) (by rw [← ed]; exact hd) (by unfold numB; rw [ed])
    rw [← q]
    simp [Bd.f3, ps_cons, hs, hm, hw, bmTyU]
  · have ed : digs w = w := by unfold digs; rw [if_neg hm]
    have q := core w hw (by unfold numB; rw [ed])
    rw [← q]
    simp [Bd.f3, ps_cons, hs, hm, hw, bmTyU]
end
end Dv
end

section
set_option Elab.async false
set_option autoImplicit false
set_option linter.all false
set_option maxRecDepth 100000
/-! V04: what names and numbers are as words. -/
namespace Dv
open PySem L2 TL
theorem starts_minus (w : Str) : Txt.startswith w "-" = decide ((chrs w).head? = some 45) := by
  rw [show Str.ofString "-" = ⟨#[45]⟩ from by decide +kernel]
  unfold Txt.startswith chrs
  obtain ⟨⟨l⟩⟩ := w
  cases l with
  | nil => rfl
  | cons c r =>
    show (decide (0 + 1 ≤ (c :: r).toArray.size) && _) = _
    simp [Builtin.Str.subAt, Str.length]
    by_cases h : c = 45 <;> simp [h]
theorem chrs_cut1 (w : Str) : chrs (cutS w (some 1) none) = (chrs w).drop 1 := by
  have e2 : HT.sIx w.length w.length none = w.length := rfl
  have e1 : HT.sIx w.length 0 (some 1) = min 1 w.length := HT.sIx_nat w.length 0 1
  have l : w.length = (chrs w).length := len_chrs w
  unfold cutS chrs
  simp only [e1, e2]
  show List.take (w.length - min 1 w.length) (List.drop (min 1 w.length) (chrs w)) = List.drop 1 (chrs w)
  rw [l]
  cases chrs w with
  | nil => rfl
  | cons c r => simp
theorem DIG_eq : DIG.cps.toList = [48, 49, 50, 51, 52, 53, 54, 55, 56, 57] := by decide +kernel
theorem LET_eq : LET.cps.toList = [97, 98, 99, 100, 101, 102, 103, 104, 105, 106, 107, 108, 109, 110, 111, 112, 113, 114, 115, 116, 117, 118, 119, 120, 121, 122] := by decide +kernel
theorem DIG_mem (c : Nat) : c ∈ DIG.cps.toList ↔ 48 ≤ c ∧ c ≤ 57 := by
  rw [DIG_eq]
  simp only [List.mem_cons, List.not_mem_nil, or_false]
  omega
theorem LET_mem (c : Nat) : c ∈ LET.cps.toList ↔ 97 ≤ c ∧ c ≤ 122 := by
  rw [LET_eq]
  simp only [List.mem_cons, List.not_mem_nil, or_false]
  omega
theorem digs_of {w : Str} (h : (chrs w).head? ≠ some 45) : digs w = w := by
  unfold digs
  rw [starts_minus, if_neg (by simpa using h)]
theorem digs_minus {w : Str} (h : (chrs w).head? = some 45) : chrs (digs w) = (chrs w).drop 1 := by
  unfold digs
  rw [starts_minus, if_pos (by simpa using h), chrs_cut1]
theorem digs_len (w : Str) : (digs w).length ≤ w.length := by
  unfold digs
  split
  · exact cutS_length w _ _
  · exact Nat.le_refl _
/-- a word that begins with a letter is no number -/
theorem numB_let {w : Str} {c : Nat} (h : (chrs w).head? = some c) (hc : c ≠ 45) (hd : ¬ (48 ≤ c ∧ c ≤ 57)) : numB w = false := by
  have e := digs_of (w := w) (by rw [h]; intro z; exact hc (by injection z))
  unfold numB
  rw [e]
  obtain ⟨r, hr⟩ : ∃ r, chrs w = c :: r := by
    cases q : chrs w with
    | nil => rw [q] at h; cases h
    | cons d r => rw [q] at h; cases h; exact ⟨r, rfl⟩
  rw [hr, List.all_cons, decide_eq_false (p := c ∈ DIG.cps.toList) (by rw [DIG_mem]; exact hd)]
  simp
theorem name_head {w : Str} (h : nameB w = true) : (∃ c, (chrs w).head? = some c ∧ 97 ≤ c ∧ c ≤ 122) ∧ w ∉ KEPT ∧ w.length ≤ 12 ∧ 1 ≤ w.length ∧ ∀ c ∈ chrs w, (97 ≤ c ∧ c ≤ 122) ∨ (48 ≤ c ∧ c ≤ 57) := by
  unfold nameB at h
  simp only [Bool.and_eq_true, decide_eq_true_eq, Bool.not_eq_true', decide_eq_false_iff_not] at h
  obtain ⟨⟨⟨⟨h1, h2⟩, h3⟩, h4⟩, h5⟩ := h
  refine ⟨?_, h3, h2, h1, fun c hc => ?_⟩
  · cases q : (chrs w).head? with
    | none => rw [q] at h4; cases h4
    | some c =>
      rw [q] at h4
      exact ⟨c, rfl, (LET_mem c).mp (by simpa using h4)⟩
  · have := List.all_eq_true.mp h5 c hc
    unfold alnum at this
    rw [Bool.or_eq_true, decide_eq_true_eq, decide_eq_true_eq, LET_mem, DIG_mem] at this
    exact this
theorem numB_name {w : Str} (h : nameB w = true) : numB w = false := by
  obtain ⟨⟨c, h1, h2⟩, _⟩ := name_head h
  exact numB_let h1 (by omega) (by omega)
theorem numB_kept : ∀ w ∈ KEPT, numB w = false := by
  have : KEPT.all (fun w => !numB w) = true := by decide +kernel
  intro w hw
  simpa using List.all_eq_true.mp this w hw
/-! numbers -/
theorem numL_head (n : Nat) (h : 0 < n) : ∃ c r, numL n = c :: r ∧ 49 ≤ c ∧ c ≤ 57 := by
  induction n using Nat.strongRecOn with
  | _ n ih =>
    by_cases hn : n < 10
    · exact ⟨48 + n, [], numL_lt hn, by omega, by omega⟩
    · obtain ⟨c, r, e, h1, h2⟩ := ih (n / 10) (by omega) (by omega)
      exact ⟨c, r ++ [48 + n % 10], by rw [numL_step (by omega), e]; rfl, h1, h2⟩
theorem num_word {i : Int} (h : -1000000000 < i ∧ i < 1000000000) : numB (toString i) = true ∧ PySem.intText? (toString i) = some i ∧ (Str.ofString (toString i)).length ≤ 10 := by
  rcases Int.lt_or_le i 0 with hi | hi
  · obtain ⟨n, rfl⟩ : ∃ n : Nat, i = Int.negSucc n := ⟨(-i - 1).toNat, by omega⟩
    have hc : chrs (Str.ofString (toString (Int.negSucc n))) = 45 :: numL (n + 1) := by
      have e : tl (Str.ofString (toString (Int.negSucc n))) = 45 :: numL (n + 1) := by
        rw [tl_ofString]
        have : toString (Int.negSucc n) = "-" ++ toString (n + 1) := rfl
        rw [this, String.toList_append, List.map_append]
        have q := tl_num (n + 1)
        rw [tl_ofString] at q
        have q : List.map Char.toNat (toString (n + 1)).toList = numL (n + 1) := q
        rw [q]
        rfl
      exact e
    have l9 : (numL (n + 1)).length ≤ 9 := numL_len (by decide) (by omega)
    have dg := numL_digits (n + 1)
    have ne := numL_ne (n + 1)
    obtain ⟨c, r, ec, c1, c2⟩ := numL_head (n + 1) (by omega)
    have lw : (Str.ofString (toString (Int.negSucc n))).length ≤ 10 := by rw [len_chrs, hc, List.length_cons]; omega
    have hd : chrs (digs (Str.ofString (toString (Int.negSucc n)))) = numL (n + 1) := by rw [digs_minus (by rw [hc]; rfl), hc]; rfl
    refine ⟨?_, ?_, lw⟩
    · unfold numB
      rw [len_chrs, hd]
      have a1 : 1 ≤ (numL (n + 1)).length := by rw [ec]; simp
      rw [decide_eq_true a1, decide_eq_true l9]
      have a2 : ((numL (n + 1)).all fun c => decide (c ∈ DIG.cps.toList)) = true := List.all_eq_true.mpr fun c hc => by rw [decide_eq_true_eq, DIG_mem]; exact dg c hc
      have a3 : ¬ (numL (n + 1)).head? = some 48 := by rw [ec]; intro z; have : c = 48 := by injection z
                                                       omega
      rw [a2, decide_eq_false a3]
      rfl
    · have := intText_neg (x := Str.ofString (toString (Int.negSucc n))) hc dg ne (by omega)
      rw [this, numL_val]
      congr 1
  · obtain ⟨n, rfl⟩ : ∃ n : Nat, i = (n : Int) := ⟨i.toNat, by omega⟩
    have hc : chrs (Str.ofString (toString (n : Int))) = numL n := tl_num n
    have l9 : (numL n).length ≤ 9 := numL_len (by decide) (by omega)
    have dg := numL_digits n
    have ne := numL_ne n
    have lw : (Str.ofString (toString (n : Int))).length ≤ 10 := by rw [len_chrs, hc]; omega
    have h45 : (chrs (Str.ofString (toString (n : Int)))).head? ≠ some 45 := by
      rw [hc]
      cases q : numL n with
      | nil => exact absurd q ne
      | cons c r =>
        intro z
        have e : c = 45 := by injection z
        have := dg c (by rw [q]; exact List.mem_cons_self)
        omega
    have hd := digs_of h45
    refine ⟨?_, int_num (by omega), lw⟩
    unfold numB
    rw [hd, len_chrs, hc]
    have a1 : 1 ≤ (numL n).length := by
      have := List.length_pos_iff.mpr ne
      omega
    have a2 : ((numL n).all fun c => decide (c ∈ DIG.cps.toList)) = true := List.all_eq_true.mpr fun c hc => by rw [decide_eq_true_eq, DIG_mem]; exact dg c hc
    rw [decide_eq_true a1, decide_eq_true l9, a2]
    rcases Nat.eq_zero_or_pos n with h0 | h0
    · subst h0
      have : Str.ofString (toString ((0 : Nat) : Int)) = Str.ofString "0" := rfl
      rw [this]
      simp
    · obtain ⟨c, r, ec, c1, c2⟩ := numL_head n h0
      have a3 : ¬ (numL n).head? = some 48 := by
        rw [ec]
        intro z
        have : c = 48 := by injection z
        omega
      rw [decide_eq_false a3]
      rfl
end Dv
end

section
set_option Elab.async false
set_option autoImplicit false
set_option linter.all false
set_option maxRecDepth 100000
/-! V05: the parser reads the words of an amount. -/
namespace Dv
open PySem L2
def Am.wf : Bool → Am → Prop
  | true, .num i => -1000000000 < i ∧ i < 1000000000
  | true, .fac s => nameB s = true
  | true, .fao s a => nameB s = true ∧ a.wf true
  | true, .due s => nameB s = true
  | false, .kno s => nameB s = true
  | true, .pct i a => 0 ≤ i ∧ i ≤ 1000 ∧ a.wf true
  | true, .ife c a b => c.wf false ∧ a.wf true ∧ b.wf true
  | false, .nt c => c.wf false
  | true, .two k a b => k.ar = true ∧ a.wf true ∧ b.wf true
  | false, .two k a b => k.ar = false ∧ (if k.jo = true then a.wf false ∧ b.wf false else a.wf true ∧ b.wf true)
  | _, _ => False
theorem Am.wf_of {fs rs : List Str} (hf : ∀ s ∈ fs, nameB s = true) (hr : ∀ s ∈ rs, nameB s = true) : ∀ (a : Am) (b : Bool), a.ok fs rs b → a.wf b
  | .num i, true, h => h
  | .num i, false, h => by simp [Am.ok] at h
  | .fac s, true, h => hf s h
  | .fac s, false, h => by simp [Am.ok] at h
  | .fao s a, true, h => ⟨hf s h.1, a.wf_of hf hr true h.2⟩
  | .fao s a, false, h => by simp [Am.ok] at h
  | .due s, true, h => hr s h
  | .due s, false, h => by simp [Am.ok] at h
  | .kno s, false, h => hf s h
  | .kno s, true, h => by simp [Am.ok] at h
  | .pct i a, true, h => ⟨h.1, h.2.1, a.wf_of hf hr true h.2.2⟩
  | .pct i a, false, h => by simp [Am.ok] at h
  | .ife c a b, true, h => ⟨c.wf_of hf hr false h.1, a.wf_of hf hr true h.2.1, b.wf_of hf hr true h.2.2⟩
  | .ife c a b, false, h => by simp [Am.ok] at h
  | .nt c, true, h => by simp [Am.ok] at h
  | .nt c, false, h => c.wf_of hf hr false h
  | .two k a b, true, h => ⟨h.1, a.wf_of hf hr true h.2.1, b.wf_of hf hr true h.2.2⟩
  | .two k a b, false, h => by
    simp only [Am.ok] at h
    simp only [Am.wf]
    obtain ⟨h0, h⟩ := h
    refine ⟨h0, ?_⟩
    split at h
    · rename_i q; rw [if_pos q]; exact ⟨a.wf_of hf hr false h.1, b.wf_of hf hr false h.2⟩
    · rename_i q; rw [if_neg q]; exact ⟨a.wf_of hf hr true h.1, b.wf_of hf hr true h.2⟩
theorem drop_hd {ws r : List Str} {k : Nat} {w : Str} (h : ws.drop k = w :: r) : ws.getD k "" = w ∧ ws.drop (k + 1) = r := by
  have h1 : ws[k]? = some w := by
    have := congrArg (·[0]?) h
    simpa using this
  refine ⟨by rw [List.getD_eq_getElem?_getD, h1]; rfl, ?_⟩
  rw [← List.drop_drop, h]
  rfl
section
variable {G : Gl} {P : Nat → Option Def} {n : Nat}
theorem v4' (hP : P 4 = some Bd.f4) {ws r : List Str} {k : Nat} {i : Int} {w : Str} (hi : i = k) (h : ws.drop k = w :: r) : pcallN G FF P (n + 1) 4 [.lst (ws.map U.str), .int i] [] = .ok (.str w) [] false := by
  subst hi
  rw [v4 hP, (drop_hd h).1]
theorem v4e (hP : P 4 = some Bd.f4) {ws : List Str} {k : Nat} {i : Int} (hi : i = k) (h : ws.drop k = []) : pcallN G FF P (n + 1) 4 [.lst (ws.map U.str), .int i] [] = .ok (.str "") [] false := by
  subst hi
  have : ws.length ≤ k := by simpa using h
  rw [v4 hP, List.getD_eq_getElem?_getD, List.getElem?_eq_none this]
  rfl
/-- 5, at a name -/
theorem v5 (g : GC G) (h2 : P 2 = some Bd.f2) (h4 : P 4 = some Bd.f4) (h5 : P 5 = some Bd.f5) {ws r : List Str} {k : Nat} {i : Int} {w : Str} (hi : i = k) (h : ws.drop k = w :: r) (hw : nameB w = true) :
    pcallN G FF P (n + 2) 5 [.lst (ws.map U.str), .int i] [] = .ok (.tup [.str w, .int (i + 1)]) [] false := by
  have e4 := v4' (G := G) (n := n) h4 hi h
  have e2 := v2 (n := n) g h2 w (by have := (name_head hw).2.2.1; omega)
  rw [hw] at e2
  rw [pcall_eq h5 rfl]
  simp [Bd.f5, ps_cons, cal_p (F := FF) e4, cal_p (F := FF) e2, endV_0]
theorem int_word {i : Int} (h : -1000000000 < i ∧ i < 1000000000) (σ : Cs) : biU .int σ [.str (toString i)] = some (.int i) := by
  obtain ⟨_, h2, h3⟩ := num_word h
  unfold biU
  simp only [h2]
  rw [if_pos (by omega)]
end
/-- what the parser is made of -/
structure PP (P : Nat → Option Def) : Prop where
  h2 : P 2 = some Bd.f2
  h3 : P 3 = some Bd.f3
  h4 : P 4 = some Bd.f4
  h5 : P 5 = some Bd.f5
  h6 : P 6 = some Bd.f6
  h7 : P 7 = some Bd.f7
  h8 : P 8 = some Bd.f8
  h9 : P 9 = some Bd.f9
  h10 : P 10 = some Bd.f10
def Parses (G : Gl) (P : Nat → Option Def) (f : Nat) (a : Am) : Prop := ∀ (n : Nat) (ws post : List Str) (k : Nat) (i : Int), 3 * a.dep + 1 ≤ n → i = k → ws.drop k = a.ws ++ post → post.head? ≠ some (Str.ofString "or") →
  pcallN G FF P n f [.lst (ws.map U.str), .int i] [] = .ok (.tup [a.u, .int (i + a.ws.length)]) [] false
section
variable {G : Gl} {P : Nat → Option Def}
theorem v9num (g : GC G) (p : PP P) {i : Int} (h : -1000000000 < i ∧ i < 1000000000) : Parses G P 9 (.num i) := by
  intro n ws post k j hn hj hd hp
  obtain ⟨n, rfl⟩ : ∃ m, n = m + 4 := ⟨n - 4, by simp [Am.dep] at hn; omega⟩
  have hd : ws.drop k = Str.ofString (toString i) :: post := hd
  have e4 := v4' (G := G) (n := n + 2) p.h4 hj hd
  obtain ⟨w1, w2, w3⟩ := num_word h
  have e3 := v3 (n := n + 2) g p.h3 (Str.ofString (toString i)) (by omega) (by have := digs_len (Str.ofString (toString i)); omega)
  rw [w1] at e3
  have ei := int_word h
  generalize Str.ofString (toString i) = z at e4 e3 ei
  rw [pcall_eq p.h9 rfl]
  simp [Bd.f9, ps_cons, cal_p (F := FF) e4, cal_p (F := FF) e3, ei, endV_0, Am.u, Am.ws]
theorem v3kept (g : GC G) (p : PP P) {w : Str} (hw : w ∈ KEPT) (n : Nat) : pcallN G FF P (n + 1) 3 [.str w] [] = .ok (.bl false) [] false := by
  have l : w.length ≤ 16777216 := by
    have : KEPT.all (fun w => decide (w.length ≤ 16777216)) = true := by decide +kernel
    simpa using List.all_eq_true.mp this w hw
  have e := v3 (n := n) g p.h3 w l (by have := digs_len w; omega)
  rwa [numB_kept w hw] at e
theorem v9fac (g : GC G) (p : PP P) {s : Str} (h : nameB s = true) : Parses G P 9 (.fac s) := by
  intro n ws post k j hn hj hd hp
  obtain ⟨n, rfl⟩ : ∃ m, n = m + 4 := ⟨n - 4, by simp [Am.dep] at hn; omega⟩
  have hd : ws.drop k = Str.ofString "fact" :: s :: post := hd
  have d1 := (drop_hd hd).2
  have d2 := (drop_hd d1).2
  have e4 := v4' (G := G) (n := n + 2) p.h4 hj hd
  have e3 := v3kept (G := G) g p (w := "fact") (by simp [KEPT]) (n + 2)
  have e5 := v5 (G := G) (n := n) g p.h2 p.h4 p.h5 (i := j + 1) (k := k + 1) (by omega) d1 h
  have e6 : ∃ w, w ≠ Str.ofString "or" ∧ pcallN G FF P (n + 2) 4 [.lst (ws.map U.str), .int (j + 1 + 1)] [] = .ok (.str w) [] false := by
    cases post with
    | nil => exact ⟨"", by simp, v4e p.h4 (k := k + 1 + 1) (by omega) d2⟩
    | cons x r => exact ⟨x, fun z => hp (by rw [z]; rfl), v4' p.h4 (k := k + 1 + 1) (by omega) d2⟩
  obtain ⟨w, hw, e6⟩ := e6
  have e7 : pcallN G FF P (n + 3) 6 [.lst (ws.map U.str), .int (j + 1)] [] = .ok (.tup [.tup [.str "fact", .str s, .non], .int (j + 1 + 1)]) [] false := by
    rw [pcall_eq p.h6 rfl]
    simp [Bd.f6, ps_cons, cal_p (F := FF) e5, cal_p (F := FF) e6, hw, endV_0]
  rw [pcall_eq p.h9 rfl]
  simp [Bd.f9, ps_cons, cal_p (F := FF) e4, cal_p (F := FF) e3, cal_p (F := FF) e7, endV_0, Am.u, Am.ws]
  omega
/-- the first word of an amount, of a condition is no or -/
theorem ws_head : ∀ (a : Am), a.ws ≠ [] ∧ ∀ post : List Str, (a.ws ++ post).head? ≠ some (Str.ofString "or")
  | .num i => ⟨by simp [Am.ws], fun post => by
    intro z
    have z : Str.ofString (toString i) = Str.ofString "or" := by injection z
    have z := congrArg chrs z
    rw [show chrs (Str.ofString "or") = [111, 114] from by decide +kernel] at z
    rcases Int.lt_or_le i 0 with hi | hi
    · obtain ⟨n, rfl⟩ : ∃ n : Nat, i = Int.negSucc n := ⟨(-i - 1).toNat, by omega⟩
      have e : chrs (Str.ofString (toString (Int.negSucc n))) = 45 :: (toString (n + 1)).toList.map Char.toNat := by
        show TL.tl _ = _
        rw [TL.tl_ofString]
        have : toString (Int.negSucc n) = "-" ++ toString (n + 1) := rfl
        rw [this, String.toList_append, List.map_append]
        rfl
      rw [e] at z
      simp at z
    · obtain ⟨n, rfl⟩ : ∃ n : Nat, i = (n : Int) := ⟨i.toNat, by omega⟩
      have e : chrs (Str.ofString (toString (n : Int))) = TL.numL n := TL.tl_num n
      rw [e] at z
      have := TL.numL_digits n 111 (by rw [z]; simp)
      omega⟩
  | .fac s => ⟨by simp [Am.ws], fun post => by simp [Am.ws]⟩
  | .fao s a => ⟨by simp [Am.ws], fun post => by simp [Am.ws]⟩
  | .due s => ⟨by simp [Am.ws], fun post => by simp [Am.ws]⟩
  | .kno s => ⟨by simp [Am.ws], fun post => by simp [Am.ws]⟩
  | .pct i a => ⟨by simp [Am.ws], fun post => by simp [Am.ws]⟩
  | .ife c a b => ⟨by simp [Am.ws], fun post => by simp [Am.ws]⟩
  | .nt c => ⟨by simp [Am.ws], fun post => by simp [Am.ws]⟩
  | .two k a b => ⟨by simp [Am.ws], fun post => by cases k <;> simp [Am.ws, K2.s]⟩
theorem drop_app {ws xs post : List Str} {k : Nat} (h : ws.drop k = xs ++ post) : ws.drop (k + xs.length) = post := by
  rw [← List.drop_drop, h, List.drop_left]
theorem v9fao (g : GC G) (p : PP P) {s : Str} {a : Am} (h : nameB s = true) (ih : Parses G P 9 a) : Parses G P 9 (.fao s a) := by
  intro n ws post k j hn hj hd hp
  obtain ⟨n, rfl⟩ : ∃ m, n = m + 4 := ⟨n - 4, by simp [Am.dep] at hn; omega⟩
  have hd : ws.drop k = Str.ofString "fact" :: s :: Str.ofString "or" :: (a.ws ++ post) := hd
  have d1 := (drop_hd hd).2
  have d2 := (drop_hd d1).2
  have d3 := (drop_hd d2).2
  have e4 := v4' (G := G) (n := n + 2) p.h4 hj hd
  have e3 := v3kept (G := G) g p (w := "fact") (by simp [KEPT]) (n + 2)
  have e5 := v5 (G := G) (n := n) g p.h2 p.h4 p.h5 (i := j + 1) (k := k + 1) (by omega) d1 h
  have e6 := v4' (G := G) (n := n + 1) p.h4 (i := j + 1 + 1) (k := k + 1 + 1) (by omega) d2
  have e9 := ih (n + 2) ws post (k + 1 + 1 + 1) (j + 1 + 1 + 1) (by simp [Am.dep] at hn; omega) (by omega) d3 hp
  have e7 : pcallN G FF P (n + 3) 6 [.lst (ws.map U.str), .int (j + 1)] [] = .ok (.tup [.tup [.str "fact", .str s, a.u], .int (j + 1 + 1 + 1 + a.ws.length)]) [] false := by
    rw [pcall_eq p.h6 rfl]
    simp [Bd.f6, ps_cons, cal_p (F := FF) e5, cal_p (F := FF) e6, cal_p (F := FF) e9, endV_0]
  rw [pcall_eq p.h9 rfl]
  simp [Bd.f9, ps_cons, cal_p (F := FF) e4, cal_p (F := FF) e3, cal_p (F := FF) e7, endV_0, Am.u, Am.ws]
  omega
theorem v9due (g : GC G) (p : PP P) {s : Str} (h : nameB s = true) : Parses G P 9 (.due s) := by
  intro n ws post k j hn hj hd hp
  obtain ⟨n, rfl⟩ : ∃ m, n = m + 4 := ⟨n - 4, by simp [Am.dep] at hn; omega⟩
  have hd : ws.drop k = Str.ofString "due" :: s :: post := hd
  have d1 := (drop_hd hd).2
  have e4 := v4' (G := G) (n := n + 2) p.h4 hj hd
  have e3 := v3kept (G := G) g p (w := "due") (by simp [KEPT]) (n + 2)
  have e5 := v5 (G := G) (n := n + 1) g p.h2 p.h4 p.h5 (i := j + 1) (k := k + 1) (by omega) d1 h
  rw [pcall_eq p.h9 rfl]
  simp [Bd.f9, ps_cons, cal_p (F := FF) e4, cal_p (F := FF) e3, cal_p (F := FF) e5, endV_0, Am.u, Am.ws]
  omega
theorem v9pct (g : GC G) (p : PP P) {i : Int} {a : Am} (h : 0 ≤ i ∧ i ≤ 1000) (ih : Parses G P 9 a) : Parses G P 9 (.pct i a) := by
  intro n ws post k j hn hj hd hp
  obtain ⟨n, rfl⟩ : ∃ m, n = m + 4 := ⟨n - 4, by simp [Am.dep] at hn; omega⟩
  have hd : ws.drop k = Str.ofString "percent" :: Str.ofString (toString i) :: (a.ws ++ post) := hd
  have d1 := (drop_hd hd).2
  have d2 := (drop_hd d1).2
  have e4 := v4' (G := G) (n := n + 2) p.h4 hj hd
  have e3 := v3kept (G := G) g p (w := "percent") (by simp [KEPT]) (n + 2)
  have hb : -1000000000 < i ∧ i < 1000000000 := by omega
  obtain ⟨w1, w2, w3⟩ := num_word hb
  have e5 := v4' (G := G) (n := n + 1) p.h4 (i := j + 1) (k := k + 1) (by omega) d1
  have e6 := v3 (n := n + 1) g p.h3 (Str.ofString (toString i)) (by omega) (by have := digs_len (Str.ofString (toString i)); omega)
  rw [w1] at e6
  have ei := int_word hb
  have e9 := ih (n + 2) ws post (k + 1 + 1) (j + 1 + 1) (by simp [Am.dep] at hn; omega) (by omega) d2 hp
  generalize Str.ofString (toString i) = z at e5 e6 ei
  have e7 : pcallN G FF P (n + 3) 7 [.lst (ws.map U.str), .int (j + 1)] [] = .ok (.tup [.tup [.str "percent", .int i, a.u], .int (j + 1 + 1 + a.ws.length)]) [] false := by
    rw [pcall_eq p.h7 rfl]
    simp [Bd.f7, ps_cons, cal_p (F := FF) e5, cal_p (F := FF) e6, cal_p (F := FF) e9, endV_0, ei, g.c9, h.1, h.2]
  rw [pcall_eq p.h9 rfl]
  simp [Bd.f9, ps_cons, cal_p (F := FF) e4, cal_p (F := FF) e3, cal_p (F := FF) e7, endV_0, Am.u, Am.ws]
  omega
theorem v9ife (g : GC G) (p : PP P) {c a b : Am} (ic : Parses G P 10 c) (ia : Parses G P 9 a) (ib : Parses G P 9 b) : Parses G P 9 (.ife c a b) := by
  intro n ws post k j hn hj hd hp
  obtain ⟨n, rfl⟩ : ∃ m, n = m + 4 := ⟨n - 4, by simp [Am.dep] at hn; omega⟩
  have hd : ws.drop k = Str.ofString "if" :: (c.ws ++ (a.ws ++ (b.ws ++ post))) := by rw [hd]; simp [Am.ws]
  have d1 := (drop_hd hd).2
  have d2 := drop_app d1
  have d3 := drop_app d2
  have e4 := v4' (G := G) (n := n + 2) p.h4 hj hd
  have e3 := v3kept (G := G) g p (w := "if") (by simp [KEPT]) (n + 2)
  have ec := ic (n + 2) ws _ (k + 1) (j + 1) (by simp [Am.dep] at hn; omega) (by omega) d1 ((ws_head a).2 _)
  have ea := ia (n + 2) ws _ (k + 1 + c.ws.length) (j + 1 + c.ws.length) (by simp [Am.dep] at hn; omega) (by omega) d2 ((ws_head b).2 _)
  have eb := ib (n + 2) ws _ (k + 1 + c.ws.length + a.ws.length) (j + 1 + c.ws.length + a.ws.length) (by simp [Am.dep] at hn; omega) (by omega) d3 hp
  have e7 : pcallN G FF P (n + 3) 8 [.lst (ws.map U.str), .int (j + 1)] [] = .ok (.tup [.tup [.str "if", c.u, a.u, b.u], .int (j + 1 + c.ws.length + a.ws.length + b.ws.length)]) [] false := by
    rw [pcall_eq p.h8 rfl]
    simp [Bd.f8, ps_cons, cal_p (F := FF) ec, cal_p (F := FF) ea, cal_p (F := FF) eb, endV_0]
  rw [pcall_eq p.h9 rfl]
  simp [Bd.f9, ps_cons, cal_p (F := FF) e4, cal_p (F := FF) e3, cal_p (F := FF) e7, endV_0, Am.u, Am.ws]
  omega
theorem v9two (g : GC G) (p : PP P) {k2 : K2} {a b : Am} (hk : k2.ar = true) (ia : Parses G P 9 a) (ib : Parses G P 9 b) : Parses G P 9 (.two k2 a b) := by
  intro n ws post k j hn hj hd hp
  obtain ⟨n, rfl⟩ : ∃ m, n = m + 4 := ⟨n - 4, by simp [Am.dep] at hn; omega⟩
  have hd : ws.drop k = k2.s :: (a.ws ++ (b.ws ++ post)) := by rw [hd]; simp [Am.ws]
  have d1 := (drop_hd hd).2
  have d2 := drop_app d1
  have e4 := v4' (G := G) (n := n + 2) p.h4 hj hd
  have e3 := v3kept (G := G) g p (w := k2.s) (by cases k2 <;> simp [KEPT, K2.s]) (n + 2)
  have ea := ia (n + 3) ws _ (k + 1) (j + 1) (by simp [Am.dep] at hn; omega) (by omega) d1 ((ws_head b).2 _)
  have eb := ib (n + 3) ws _ (k + 1 + a.ws.length) (j + 1 + a.ws.length) (by simp [Am.dep] at hn; omega) (by omega) d2 hp
  have hin : k2.s ∈ [Str.ofString "plus", Str.ofString "minus", Str.ofString "times", Str.ofString "least", Str.ofString "most"] := by cases k2 <;> first | (cases hk; done) | simp [K2.s]
  have hin2 : (!decide (k2.s ∈ [Str.ofString "plus", Str.ofString "minus", Str.ofString "times", Str.ofString "least", Str.ofString "most"])) = false := by rw [decide_eq_true hin]; rfl
  rw [pcall_eq p.h9 rfl]
  simp [-List.mem_cons, Bd.f9, ps_cons, cal_p (F := FF) e4, cal_p (F := FF) e3, cal_p (F := FF) ea, cal_p (F := FF) eb, endV_0, Am.u, Am.ws, g.c5, hin]
  omega
theorem v10kno (g : GC G) (p : PP P) {s : Str} (h : nameB s = true) : Parses G P 10 (.kno s) := by
  intro n ws post k j hn hj hd hp
  obtain ⟨n, rfl⟩ : ∃ m, n = m + 4 := ⟨n - 4, by simp [Am.dep] at hn; omega⟩
  have hd : ws.drop k = Str.ofString "known" :: s :: post := hd
  have d1 := (drop_hd hd).2
  have e4 := v4' (G := G) (n := n + 2) p.h4 hj hd
  have e5 := v5 (G := G) (n := n + 1) g p.h2 p.h4 p.h5 (i := j + 1) (k := k + 1) (by omega) d1 h
  rw [pcall_eq p.h10 rfl]
  simp [Bd.f10, ps_cons, cal_p (F := FF) e4, cal_p (F := FF) e5, endV_0, Am.u, Am.ws]
  omega
theorem v10nt (g : GC G) (p : PP P) {c : Am} (ic : Parses G P 10 c) : Parses G P 10 (.nt c) := by
  intro n ws post k j hn hj hd hp
  obtain ⟨n, rfl⟩ : ∃ m, n = m + 4 := ⟨n - 4, by simp [Am.dep] at hn; omega⟩
  have hd : ws.drop k = Str.ofString "not" :: (c.ws ++ post) := hd
  have d1 := (drop_hd hd).2
  have e4 := v4' (G := G) (n := n + 2) p.h4 hj hd
  have ec := ic (n + 3) ws _ (k + 1) (j + 1) (by simp [Am.dep] at hn; omega) (by omega) d1 hp
  rw [pcall_eq p.h10 rfl]
  simp [Bd.f10, ps_cons, cal_p (F := FF) e4, cal_p (F := FF) ec, endV_0, Am.u, Am.ws]
  omega
theorem v10tst (g : GC G) (p : PP P) {k2 : K2} {a b : Am} (hk : k2.ar = false) (hk2 : k2.jo = false) (ia : Parses G P 9 a) (ib : Parses G P 9 b) : Parses G P 10 (.two k2 a b) := by
  intro n ws post k j hn hj hd hp
  obtain ⟨n, rfl⟩ : ∃ m, n = m + 4 := ⟨n - 4, by simp [Am.dep] at hn; omega⟩
  have hd : ws.drop k = k2.s :: (a.ws ++ (b.ws ++ post)) := by rw [hd]; simp [Am.ws]
  have d1 := (drop_hd hd).2
  have d2 := drop_app d1
  have e4 := v4' (G := G) (n := n + 2) p.h4 hj hd
  have ea := ia (n + 3) ws _ (k + 1) (j + 1) (by simp [Am.dep] at hn; omega) (by omega) d1 ((ws_head b).2 _)
  have eb := ib (n + 3) ws _ (k + 1 + a.ws.length) (j + 1 + a.ws.length) (by simp [Am.dep] at hn; omega) (by omega) d2 hp
  have hin : k2.s ∈ [Str.ofString "below", Str.ofString "same"] := by cases k2 <;> first | (cases hk; done) | (cases hk2; done) | simp [K2.s]
  rw [pcall_eq p.h10 rfl]
  simp [-List.mem_cons, Bd.f10, ps_cons, cal_p (F := FF) e4, cal_p (F := FF) ea, cal_p (F := FF) eb, endV_0, Am.u, Am.ws, g.c6, hin]
  omega
theorem v10jnt (g : GC G) (p : PP P) {k2 : K2} {a b : Am} (hk2 : k2.jo = true) (ia : Parses G P 10 a) (ib : Parses G P 10 b) : Parses G P 10 (.two k2 a b) := by
  intro n ws post k j hn hj hd hp
  obtain ⟨n, rfl⟩ : ∃ m, n = m + 4 := ⟨n - 4, by simp [Am.dep] at hn; omega⟩
  have hd : ws.drop k = k2.s :: (a.ws ++ (b.ws ++ post)) := by rw [hd]; simp [Am.ws]
  have d1 := (drop_hd hd).2
  have d2 := drop_app d1
  have e4 := v4' (G := G) (n := n + 2) p.h4 hj hd
  have ea := ia (n + 3) ws _ (k + 1) (j + 1) (by simp [Am.dep] at hn; omega) (by omega) d1 ((ws_head b).2 _)
  have eb := ib (n + 3) ws _ (k + 1 + a.ws.length) (j + 1 + a.ws.length) (by simp [Am.dep] at hn; omega) (by omega) d2 hp
  have hin : k2.s ∈ [Str.ofString "both", Str.ofString "either"] := by cases k2 <;> first | (cases hk2; done) | simp [K2.s]
  have hni : ¬ k2.s ∈ [Str.ofString "below", Str.ofString "same"] := by cases k2 <;> first | (cases hk2; done) | simp [K2.s]
  rw [pcall_eq p.h10 rfl]
  simp [-List.mem_cons, Bd.f10, ps_cons, cal_p (F := FF) e4, cal_p (F := FF) ea, cal_p (F := FF) eb, endV_0, Am.u, Am.ws, g.c6, g.c7, hin, hni]
  omega
/-- every well-formed amount, every condition is read -/
theorem v910 (g : GC G) (p : PP P) : ∀ a : Am, (a.wf true → Parses G P 9 a) ∧ (a.wf false → Parses G P 10 a)
  | .num i => ⟨fun h => v9num g p h, fun h => by simp [Am.wf] at h⟩
  | .fac s => ⟨fun h => v9fac g p h, fun h => by simp [Am.wf] at h⟩
  | .fao s a => ⟨fun h => v9fao g p h.1 ((v910 g p a).1 h.2), fun h => by simp [Am.wf] at h⟩
  | .due s => ⟨fun h => v9due g p h, fun h => by simp [Am.wf] at h⟩
  | .kno s => ⟨fun h => by simp [Am.wf] at h, fun h => v10kno g p h⟩
  | .pct i a => ⟨fun h => v9pct g p ⟨h.1, h.2.1⟩ ((v910 g p a).1 h.2.2), fun h => by simp [Am.wf] at h⟩
  | .ife c a b => ⟨fun h => v9ife g p ((v910 g p c).2 h.1) ((v910 g p a).1 h.2.1) ((v910 g p b).1 h.2.2), fun h => by simp [Am.wf] at h⟩
  | .nt c => ⟨fun h => by simp [Am.wf] at h, fun h => v10nt g p ((v910 g p c).2 h)⟩
  | .two k a b => ⟨fun h => v9two g p h.1 ((v910 g p a).1 h.2.1) ((v910 g p b).1 h.2.2), fun h => by
    simp only [Am.wf] at h
    obtain ⟨h0, h⟩ := h
    split at h
    · rename_i q
      exact v10jnt g p q ((v910 g p a).2 h.1) ((v910 g p b).2 h.2)
    · rename_i q
      exact v10tst g p h0 (by simpa using q) ((v910 g p a).1 h.1) ((v910 g p b).1 h.2)⟩
end
end Dv
end

section
set_option Elab.async false
set_option autoImplicit false
set_option linter.all false
set_option maxRecDepth 100000
/-! V06: texts parsed, values compared, rows. -/
namespace Dv
open PySem L2
section
variable {G : Gl} {P : Nat → Option Def} {n : Nat}
/-- the words between the spaces -/
def wordsOf (t : Str) : List Str := (Txt.split t " ").filter fun w => !decide (w = Str.ofString "")
theorem v1 (hP : P 1 = some Bd.f1) {t : Str} (hl : t.length ≤ 1000000) (hs : (Txt.split t (Str.ofString " ")).length ≤ 1000000) : pcallN G FF P (n + 1) 1 [.str t] [] = .ok (.lst ((wordsOf t).map U.str)) [] false := by
  have hb : ∀ m, bmU [] m .split [] (.str t) [.str (Str.ofString " ")] = .ok (.lst ((Txt.split t (Str.ofString " ")).map U.str)) [] false := fun m => by
    unfold bmU
    simp only
    rw [if_pos ⟨by decide +kernel, by rw [sizeLine_val]; omega⟩]
  rw [pcall_eq hP rfl]
  simp [Bd.f1, ps_cons, bmTyU, hb]
  rw [comp_v U.str (fun w => !decide (w = Str.ofString "")) U.str hs]
  · have hl2 : (wordsOf t).length ≤ 16777216 := Nat.le_trans (List.length_filter_le _ _) (by omega)
    have e : (List.filter (fun w => !decide (w = Str.ofString "")) (Txt.split t (Str.ofString " "))) = wordsOf t := rfl
    rw [e]
    simp [hl2, endV_0]
  · intro w hw
    refine ⟨_, rfl, ?_, fun _ => ?_⟩ <;> simp
/-- a text of an amount is read -/
theorem v11 (g : GC G) (p : PP P) (h1 : P 1 = some Bd.f1) (h11 : P 11 = some Bd.f11) {t : Str} {a : Am} (hl : t.length ≤ 1000000) (hs : (Txt.split t (Str.ofString " ")).length ≤ 1000000) (hw : wordsOf t = a.ws) (h40 : a.ws.length ≤ 40) (wf : a.wf true) (hn : 3 * a.dep + 1 ≤ n) :
    pcallN G FF P (n + 1) 11 [.str t] [] = .ok a.u [] false := by
  obtain ⟨n, rfl⟩ : ∃ m, n = m + 1 := ⟨n - 1, by omega⟩
  have e1 := v1 (G := G) (n := n) h1 hl hs
  rw [hw] at e1
  have e9 := (v910 g p a).1 wf (n + 1) a.ws [] 0 0 (by omega) rfl (by simp) (by simp)
  rw [pcall_eq h11 rfl]
  have c40 : ¬ ((40 : Int) < a.ws.length) := by omega
  simp [Bd.f11, ps_cons, cal_p (F := FF) e1, cal_p (F := FF) e9, g.c8, c40, endV_0]
/-- a row -/
theorem v15 (hP : P 15 = some Bd.f15) (ns : List Int) (place many : Nat) (hp : place ≤ 1000) (hm : many ≤ 1000) :
    ∃ r, Row r many ∧ pcallN G FF P (n + 1) 15 [.rol ns, .int place, .int many] [] = .ok (.lst (r.map U.int)) [] false := by
  have W : Wo (pcallN G FF P (n + 1) 15 [.rol ns, .int place, .int many] []) (fun u σ => ∃ r, Row r many ∧ u = .lst (r.map U.int) ∧ σ = []) Nox := by
    refine wo_call hP rfl ?_
    have mm : -4611686018427387904 ≤ (many : Int) ∧ (many : Int) < 4611686018427387904 := by omega
    have loop : ∀ (cell rest : Int) (N : UE → Cs → Prop), (∀ r x4 x6 x7, Row r many → N [some (.rol ns), some (.int place), some (.int many), some (.int cell), x4, some (.cel 0), x6, x7] [.lst (r.map U.int)]) →
        ∀ R X, Wr (forU [6] true (pS G FF (pcallN G FF P n) 0 15 (match Bd.f15.body with | .cons _ (.cons _ (.cons _ (.cons _ (.cons (.for_ _ _ _ b) _)))) => b | _ => .nil) none []) ((List.range many).map fun (i : Nat) => U.int (i : Int)) [some (.rol ns), some (.int place), some (.int many), some (.int cell), some (.int rest), some (.cel 0), none, none] [.lst []]) N R X := by
      intro cell rest N hN R X
      refine wr_for (fun i e σ => ∃ rest r x6 x7, Row r i ∧ σ = [.lst (r.map U.int)] ∧ e = [some (.rol ns), some (.int place), some (.int many), some (.int cell), some (.int rest), some (.cel 0), x6, x7]) ⟨rest, [], none, none, ⟨rfl, fun x hx => by cases hx⟩, rfl, rfl⟩ ?_ ?_
      · rintro i x e σ hx ⟨rest, r, x6, x7, hr, rfl, rfl⟩
        have hi : i < many := by
          have := (List.getElem?_eq_some_iff.mp hx).1
          simpa using this
        have hxv : x = .int i := by
          rw [List.getElem?_map, List.getElem?_range hi] at hx
          cases hx
          rfl
        subst hxv
        refine ⟨_, rfl, ?_⟩
        have ap := fun v => bm_app (σ := [.lst (r.map U.int)]) (k := 0) (m := 0) (us := r.map U.int) (x := .int v) (lk := []) rfl (by rw [List.length_map, hr.1]; omega) (by simp) (.inl (Nat.le_refl _))
        have ty := (ty_cel (σ := [.lst (r.map U.int)]) (k := 0) rfl).2.1
        by_cases h : 0 < rest
        · simp [Bd.f15, ps_cons, wr_cons, h, ap, ty]
          exact ⟨rest / 1000, r ++ [rest % 1000], row_app hr (by omega) (by omega), by simp, by simp⟩
        · simp [Bd.f15, ps_cons, wr_cons, h, ap, ty]
          refine ⟨.inl (by omega), rest, r ++ [_], row_app hr ?_ ?_, by rw [List.map_append]; rfl, rfl⟩ <;> omega
      · rintro e σ ⟨rest, r, x6, x7, hr, rfl, rfl⟩
        simp at hr
        exact hN r _ x6 x7 hr
    have fin : ∀ cell rest : Int, Wr ((forU [6] true (pS G FF (pcallN G FF P n) 0 15 (match Bd.f15.body with | .cons _ (.cons _ (.cons _ (.cons _ (.cons (.for_ _ _ _ b) _)))) => b | _ => .nil) none []) ((List.range many).map fun (i : Nat) => U.int (i : Int)) [some (.rol ns), some (.int place), some (.int many), some (.int cell), some (.int rest), some (.cel 0), none, none] [.lst []]).andThen
        (pS G FF (pcallN G FF P n) 0 15 (.cons (.ret (.var 5)) .nil) none [])) (fun _ σ1 => Wo (endV true 0 .non σ1 false) (fun u σ => ∃ r, Row r many ∧ u = .lst (r.map U.int) ∧ σ = []) Nox) (fun u σ1 => Wo (endV true 0 u σ1 false) (fun u σ => ∃ r, Row r many ∧ u = .lst (r.map U.int) ∧ σ = []) Nox)
        (fun c fs x σ1 => False) := fun cell rest => by
      rw [wr_then]
      refine loop cell rest _ (fun r x4 x6 x7 hr => ?_) _ _
      have q := endV_c (fre := true) (z := false) (σ := [U.lst (r.map U.int)]) (k := 0) rfl (by simp)
      simp [ps_cons, q]
      exact ⟨r, hr, rfl⟩
    by_cases h : place < ns.length
    · have e : atI ns (place : Int) = some ns[place] := by rw [atI_natU, List.getElem?_eq_getElem h]
      simp [Bd.f15, ps_cons, freshE, h, e, mm.1, mm.2]
      exact fin _ _
    · simp [Bd.f15, ps_cons, freshE, h, mm.1, mm.2]
      exact fin _ _
  revert W
  cases pcallN G FF P (n + 1) 15 [.rol ns, .int place, .int many] [] with
  | bad => exact fun W => W.elim
  | exc c fs σ z => exact fun W => W.2.elim
  | ok u σ z =>
    rintro ⟨rfl, r, hr, rfl, rfl⟩
    exact ⟨r, hr, rfl⟩
end
/-! ### the same -/
mutual
/-- data without booleans -/
def U.rg : U → Bool
  | .non => true | .int _ => true | .str _ => true
  | .tup us => decide (us.length ≤ 1000000) && rgL us
  | .lst us => decide (us.length ≤ 1000000) && rgL us
  | _ => false
def rgL : List U → Bool
  | [] => true
  | u :: r => u.rg && rgL r
end
mutual
def U.dh : U → Nat
  | .tup us => dhL us + 1
  | .lst us => dhL us + 1
  | _ => 0
def dhL : List U → Nat
  | [] => 0
  | u :: r => max u.dh (dhL r)
end
mutual
theorem rg_lc {m : Nat} : ∀ u : U, u.rg = true → u.lc m = true
  | .non, _ => rfl
  | .int _, _ => rfl
  | .str _, _ => rfl
  | .tup us, h => by simp only [U.lc]; exact rgL_lc us (Bool.and_eq_true_iff.mp (by simpa only [U.rg] using h)).2
  | .lst us, h => by simp only [U.lc]; exact rgL_lc us (Bool.and_eq_true_iff.mp (by simpa only [U.rg] using h)).2
  | .bl _, h => by cases h
  | .rol _, h => by cases h
  | .ktp _, h => by cases h
  | .dct _ _, h => by cases h
  | .dtt _ _, h => by cases h
  | .ins _ _ _, h => by cases h
  | .cel _, h => by cases h
theorem rgL_lc {m : Nat} : ∀ us : List U, rgL us = true → lcL m us = true
  | [], _ => rfl
  | u :: us, h => by
    obtain ⟨h1, h2⟩ := Bool.and_eq_true_iff.mp (show (u.rg && rgL us) = true from h)
    show (u.lc m && lcL m us) = true
    rw [rg_lc u h1, rgL_lc us h2]
    rfl
end
theorem rgL_get : ∀ {us : List U} {k : Nat} {u : U}, rgL us = true → us[k]? = some u → u.rg = true ∧ u.dh ≤ dhL us
  | [], k, u, _, e => by simp at e
  | v :: us, 0, u, h, e => by
    have : v = u := by simpa using e
    subst this
    exact ⟨(Bool.and_eq_true_iff.mp (show (v.rg && rgL us) = true from h)).1, Nat.le_max_left _ _⟩
  | v :: us, k + 1, u, h, e => by
    obtain ⟨a, b⟩ := rgL_get (us := us) (k := k) (Bool.and_eq_true_iff.mp (show (v.rg && rgL us) = true from h)).2 (by simpa using e)
    exact ⟨a, Nat.le_trans b (Nat.le_max_right _ _)⟩
section
variable {G : Gl} {P : Nat → Option Def}
theorem v26 (h14 : P 14 = some Bd.f14) (hP : P 26 = some Bd.f26) : ∀ (d : Nat) (u : U) (n : Nat), u.dh ≤ d → u.rg = true → d + 2 ≤ n → pcallN G FF P n 26 [u, u] [] = .ok (.bl true) [] false := by
  intro d
  induction d with
  | zero =>
    intro u n hd hr hn
    obtain ⟨n, rfl⟩ : ∃ m, n = m + 2 := ⟨n - 2, by omega⟩
    rw [pcall_eq hP rfl]
    cases u <;> first | (cases hr; done) | skip
    · simp [Bd.f26, ps_cons, endV_0]
    · rename_i i
      have e := v14 (G := G) (n := n) h14 i
      simp [Bd.f26, ps_cons, endV_0, cal_p (F := FF) e]
    · simp [Bd.f26, ps_cons, endV_0]
    · simp only [U.dh] at hd; omega
    · simp only [U.dh] at hd; omega
  | succ d ih =>
    intro u n hd hr hn
    obtain ⟨n, rfl⟩ : ∃ m, n = m + 3 := ⟨n - 3, by omega⟩
    have seqs : ∀ us : List U, dhL us ≤ d → rgL us = true → ∀ (v : U), v.lc 0 = true → (∀ (σ : Cs) (i : Int), idxU σ v (.int i) = atI us i) →
        forU [2] true (pS G FF (pcallN G FF P (n + 2)) 0 26 (.cons (.ite (.not (.cal 26 (.cons (.idx (.var 0) (.var 2)) (.cons (.idx (.var 1) (.var 2)) .nil)))) (.cons (.ret (.bl false)) .nil) .nil) .nil) none []) ((List.range us.length).map fun (i : Nat) => U.int (i : Int)) [some v, some v, none] [] =
          .nx [some v, some v, lastO (fun (i : Nat) => U.int (i : Int)) none (List.range us.length)] [] false := by
      intro us hu hg v hv hx
      rw [forU_any (fun o => [some v, some v, o]) (fun (i : Nat) => U.int (i : Int)) (fun _ => false) (.bl false) (i := 2) (fun _ _ => rfl)]
      · simp
      · intro i hi
        have hi : i < us.length := by simpa using hi
        have e : atI us (i : Int) = some us[i] := by rw [atI_natU, List.getElem?_eq_getElem hi]
        obtain ⟨g1, g2⟩ := rgL_get hg (List.getElem?_eq_getElem hi)
        have e2 := ih us[i] (n + 2) (by omega) g1 (by omega)
        have l := rg_lc (m := 0) us[i] g1
        simp [ps_cons, hx, e, cal_p (F := FF) e2 (by simp) (by simp [l])]
    cases u <;> first | (cases hr; done) | skip
    · rw [pcall_eq hP rfl]; simp [Bd.f26, ps_cons, endV_0]
    · rename_i i
      have e := v14 (G := G) (n := n + 1) h14 i
      rw [pcall_eq hP rfl]
      simp [Bd.f26, ps_cons, endV_0, cal_p (F := FF) e]
    · rw [pcall_eq hP rfl]; simp [Bd.f26, ps_cons, endV_0]
    · rename_i us
      simp only [U.dh] at hd
      obtain ⟨hl, hr⟩ := Bool.and_eq_true_iff.mp (show (decide (us.length ≤ 1000000) && rgL us) = true from hr)
      have hl : (us.length : Int) < 4611686018427387904 := by have := of_decide_eq_true hl; omega
      have q := seqs us (by omega) hr (.tup us) (by simp [rgL_lc us hr]) (fun _ _ => rfl)
      rw [pcall_eq hP rfl]
      simp [Bd.f26, ps_cons, endV_0, hl, q]
    · rename_i us
      simp only [U.dh] at hd
      obtain ⟨hl, hr⟩ := Bool.and_eq_true_iff.mp (show (decide (us.length ≤ 1000000) && rgL us) = true from hr)
      have hl : (us.length : Int) < 4611686018427387904 := by have := of_decide_eq_true hl; omega
      have q := seqs us (by omega) hr (.lst us) (by simp [rgL_lc us hr]) (fun _ _ => rfl)
      rw [pcall_eq hP rfl]
      simp [Bd.f26, ps_cons, endV_0, hl, q]
/-- a rule's amount: not more than forty words -/
theorem v24 (h19 : P 19 = some Bd.f19) (h20 : P 20 = some Bd.f20) (h21 : P 21 = some Bd.f21) (h22 : P 22 = some Bd.f22) (h23 : P 23 = some Bd.f23) (h24 : P 24 = some Bd.f24) {σ : Cs} {k : Nat} (hk : k < σ.length) (hσ : lcL σ.length σ = true) {fs rs : List Str} (hf : 0 < fs.length) (hr : 0 < rs.length) (n : Nat) (hn : 8 ≤ n) (xs : List Int) :
    ∃ (a : Am) (ys : List Int), a.ok fs rs true ∧ a.dep ≤ 4 ∧ a.ws.length ≤ 40 ∧ pcallN G FF P n 24 [.cel k, .lst (fs.map U.str), .lst (rs.map U.str)] (cs σ k xs) = .ok a.u (cs σ k ys) false := by
  obtain ⟨n, rfl⟩ : ∃ m, n = m + 8 := ⟨n - 8, by omega⟩
  have q := v19' (G := G) (n := n + 6) h19 hk hσ xs (many := 3) (by decide)
  have b := pop1_bd xs (many := 3) (by decide)
  obtain ⟨d, hd⟩ : ∃ d : Nat, 1 + pop1 xs 3 = (d : Int) := ⟨(1 + pop1 xs 3).toNat, by omega⟩
  obtain ⟨a, ys, h1, h2, e⟩ := (v2122 (G := G) h19 h20 h21 h22 hk hσ hf hr d).1 (n + 7) xs.dropLast (by omega)
  have e2 := v23 (G := G) h23 a (n + 7) (a.sm_of true h1) (by omega) (by omega)
  by_cases c : (40 : Int) < a.ws.length
  · obtain ⟨s, r, hs⟩ : ∃ s r, fs = s :: r := by cases fs with | nil => simp at hf | cons s r => exact ⟨s, r, rfl⟩
    have hl : atI (rs.map U.str) (-1) = some (.str (rs.getLast (by intro z; rw [z] at hr; simp at hr))) := by
      unfold atI ixN
      rw [if_neg (by decide)]
      simp
      rw [if_pos (by omega)]
      show Option.map U.str rs[(-1 + (rs.length : Int)).toNat]? = _
      have e : (-1 + (rs.length : Int)).toNat = rs.length - 1 := by omega
      rw [e, List.getElem?_eq_getElem (by omega), List.getLast_eq_getElem]
      rfl
    refine ⟨.two .plus (.due (rs.getLast (by intro z; rw [z] at hr; simp at hr))) (.fao s (.num 3)), ys, ⟨rfl, List.getLast_mem _, by rw [hs]; exact List.mem_cons_self, (show -1000000000 < (3 : Int) ∧ (3 : Int) < 1000000000 from by decide)⟩, by simp [Am.dep], by simp [Am.ws], ?_⟩
    have h0 : atI (fs.map U.str) 0 = some (.str s) := by
      rw [show (0 : Int) = ((0 : Nat) : Int) from rfl, atI_natU, hs]
      rfl
    rw [pcall_eq h24 rfl]
    simp [Bd.f24, ps_cons, calU_io, q, hd, e, cal_p (F := FF) e2, c, hl, h0, endV_cs hσ, Am.u, K2.s]
  · refine ⟨a, ys, h1, by omega, by omega, ?_⟩
    rw [pcall_eq h24 rfl]
    simp [Bd.f24, ps_cons, calU_io, q, hd, e, cal_p (F := FF) e2, c, endV_cs hσ]
end
end Dv
end

section
set_option Elab.async false
set_option autoImplicit false
set_option linter.all false
set_option maxRecDepth 100000
/-! V07: drawn names. -/
namespace Dv
open PySem L2
theorem row_at {r : List Int} {m : Nat} (h : Row r m) {j : Int} (h0 : 0 ≤ j) (h1 : j < m) : ∃ v, (0 ≤ v ∧ v < 1000) ∧ atI (r.map U.int) j = some (.int v) := by
  obtain ⟨j, rfl⟩ : ∃ i : Nat, j = i := ⟨j.toNat, by omega⟩
  have hl : j < r.length := by have := h.1; omega
  refine ⟨r[j], h.2 _ (List.getElem_mem hl), ?_⟩
  rw [atI_natU, List.getElem?_map, List.getElem?_eq_getElem hl]
  rfl
def isLet (c : Nat) : Prop := 97 ≤ c ∧ c ≤ 122
def isAn (c : Nat) : Prop := (97 ≤ c ∧ c ≤ 122) ∨ (48 ≤ c ∧ c ≤ 57)
theorem let_at {j : Int} (h0 : 0 ≤ j) (h1 : j < 26) : ∃ c, isLet c ∧ atI (Str.ofString "abcdefghijklmnopqrstuvwxyz").cps.toList j = some c := by
  obtain ⟨j, rfl⟩ : ∃ i : Nat, j = i := ⟨j.toNat, by omega⟩
  have hl : j < (Str.ofString "abcdefghijklmnopqrstuvwxyz").cps.toList.length := by
    have : (Str.ofString "abcdefghijklmnopqrstuvwxyz").cps.toList.length = 26 := by decide +kernel
    omega
  refine ⟨(Str.ofString "abcdefghijklmnopqrstuvwxyz").cps.toList[j], (LET_mem _).mp (List.getElem_mem hl), ?_⟩
  rw [atI_natU, List.getElem?_eq_getElem hl]
theorem an_at {j : Int} (h0 : 0 ≤ j) (h1 : j < 36) : ∃ c, isAn c ∧ atI (Str.ofString "abcdefghijklmnopqrstuvwxyz" ++ Str.ofString "0123456789").cps.toList j = some c := by
  obtain ⟨j, rfl⟩ : ∃ i : Nat, j = i := ⟨j.toNat, by omega⟩
  have hc : (Str.ofString "abcdefghijklmnopqrstuvwxyz" ++ Str.ofString "0123456789").cps.toList = LET.cps.toList ++ DIG.cps.toList := TL.tl_append _ _
  rw [hc]
  have hl : j < (LET.cps.toList ++ DIG.cps.toList).length := by
    have : (LET.cps.toList ++ DIG.cps.toList).length = 36 := by decide +kernel
    omega
  refine ⟨(LET.cps.toList ++ DIG.cps.toList)[j], ?_, ?_⟩
  · rcases List.mem_append.mp (List.getElem_mem hl) with h | h
    · exact .inl ((LET_mem _).mp h)
    · exact .inr ((DIG_mem _).mp h)
  · rw [atI_natU, List.getElem?_eq_getElem hl]
theorem chrs_app (a b : Str) : chrs (a ++ b) = chrs a ++ chrs b := TL.tl_append a b
theorem len_app (a b : Str) : (a ++ b).length = a.length + b.length := by rw [len_chrs, chrs_app, List.length_append, ← len_chrs, ← len_chrs]
theorem chrs_take (w : Str) (a : Nat) : chrs (cutS w none (some (a : Int))) = (chrs w).take a := by
  have e1 : HT.sIx w.length w.length (some (a : Int)) = min a w.length := HT.sIx_nat w.length w.length a
  have e2 : HT.sIx w.length 0 none = 0 := rfl
  have l : w.length = (chrs w).length := len_chrs w
  unfold cutS chrs
  simp only [e1, e2]
  show List.take (min a w.length - 0) (List.drop 0 (chrs w)) = List.take a (chrs w)
  rw [l, List.drop_zero, Nat.sub_zero]
  rcases Nat.le_total a (chrs w).length with h | h
  · rw [Nat.min_eq_left h]
  · rw [Nat.min_eq_right h, List.take_length, List.take_of_length_le h]
theorem chrs_drop (w : Str) (a : Nat) : chrs (cutS w (some (a : Int)) none) = (chrs w).drop a := by
  have e2 : HT.sIx w.length w.length none = w.length := rfl
  have e1 : HT.sIx w.length 0 (some (a : Int)) = min a w.length := HT.sIx_nat w.length 0 a
  have l : w.length = (chrs w).length := len_chrs w
  unfold cutS chrs
  simp only [e1, e2]
  show List.take (w.length - min a w.length) (List.drop (min a w.length) (chrs w)) = List.drop a (chrs w)
  rw [l]
  rcases Nat.le_total a (chrs w).length with h | h
  · rw [Nat.min_eq_left h, List.take_of_length_le (by simp)]
  · rw [Nat.min_eq_right h, List.drop_eq_nil_of_le h, Nat.sub_self, List.take_zero]
/-- a good beginning of a name -/
def Good (t : List Nat) : Prop := (∀ c ∈ t, isAn c) ∧ ∀ c, t.head? = some c → isLet c
theorem name_of {w : Str} (h1 : 1 ≤ w.length) (h2 : w.length ≤ 12) (h3 : w ∉ KEPT) (g : Good (chrs w)) : nameB w = true := by
  unfold nameB
  cases q : (chrs w).head? with
  | none => rw [len_chrs] at h1; cases hc : chrs w with | nil => rw [hc] at h1; simp at h1 | cons c r => rw [hc] at q; cases q
  | some c =>
    have a1 : c ∈ LET.cps.toList := (LET_mem c).mpr (g.2 c q)
    have a2 : (chrs w).all alnum = true := List.all_eq_true.mpr fun c hc => by
      unfold alnum
      rcases g.1 c hc with h | h
      · rw [decide_eq_true ((LET_mem c).mpr h)]; rfl
      · rw [decide_eq_true ((DIG_mem c).mpr h), Bool.or_true]
    rw [decide_eq_true h1, decide_eq_true h2, decide_eq_false h3, a2]
    show (true && true && !false && decide (c ∈ chrs LET) && true) = true
    rw [decide_eq_true a1]
    rfl
theorem kept_x : ∀ w ∈ KEPT, (w ++ Str.ofString "x") ∉ KEPT ∧ (w ++ Str.ofString "x").length ≤ 12 := by
  have : KEPT.all (fun w => !decide ((w ++ Str.ofString "x") ∈ KEPT) && decide ((w ++ Str.ofString "x").length ≤ 12)) = true := by decide +kernel
  intro w hw
  have := List.all_eq_true.mp this w hw
  simpa using this
section
variable {G : Gl} {P : Nat → Option Def} {n : Nat}
theorem v16 (hP : P 16 = some Bd.f16) : pcallN G FF P (n + 1) 16 [] [] = .ok (.lst (KEPT.map U.str)) [] false := by
  rw [pcall_eq hP rfl]
  simp [Bd.f16, ps_cons, endV_0, KEPT]
theorem in_strs (σ : Cs) (w : Str) (ys : List Str) : inU σ (.str w) (.lst (ys.map U.str)) = some (decide (w ∈ ys)) := by
  have hs : (ys.map U.str).all U.sc = true := by rw [List.all_map]; exact List.all_eq_true.mpr fun _ _ => rfl
  unfold inU
  simp only [dref_lst']
  rw [if_pos (by rw [hs]; rfl)]
  congr 1
  induction ys with
  | nil => rfl
  | cons y r ih =>
    have hs' : (r.map U.str).all U.sc = true := by rw [List.all_map]; exact List.all_eq_true.mpr fun _ _ => rfl
    rw [List.map_cons, List.any_cons, ih hs']
    show ((y == w) || _) = _
    by_cases h : w = y
    · subst h; simp
    · have h' : ¬ y = w := fun z => h z.symm
      simp [h, h']
theorem nm_rest (h16 : P 16 = some Bd.f16) {r : List Int} (hr : Row r 15) {k : Int} (hk : 0 ≤ k ∧ k ≤ 10) (sz : Nat) (al : Bool) (hsz : sz ≤ 11) {T : S} (hT : T = (match Bd.f17.body with | .cons _ (.cons _ (.cons _ (.cons _ (.cons _ b)))) => b | _ => .nil)) :
    (Wr (pS G FF (pcallN G FF P (n + 1)) 0 17 T none [] [some (.lst (r.map U.int)), some (.int k), some (.str (Str.ofString "abcdefghijklmnopqrstuvwxyz")), some (.str (Str.ofString "")), some (.int sz), some (.bl al), none, none] [])
        (fun _ σ1 => Wo (endV false 0 .non σ1 false) (fun u σ => ∃ s, nameB s = true ∧ u = .str s ∧ σ = []) Nox) (fun u σ1 => Wo (endV false 0 u σ1 false) (fun u σ => ∃ s, nameB s = true ∧ u = .str s ∧ σ = []) Nox) (fun c fs _ σ1 => False)) = True := by
  refine eq_true ?_
  obtain ⟨r0, b0, e0⟩ := row_at hr (j := 0) (by decide) (by decide)
  obtain ⟨r1, b1, e1⟩ := row_at hr (j := 1) (by decide) (by decide)
  obtain ⟨r2, b2, e2⟩ := row_at hr (j := 2) (by decide) (by decide)
  obtain ⟨r3, b3, e3⟩ := row_at hr (j := 3) (by decide) (by decide)
  have hL : (Str.ofString "abcdefghijklmnopqrstuvwxyz").length = 26 := by decide +kernel
  have hD : (Str.ofString "0123456789").length = 10 := by decide +kernel
  subst hT
  have g0 : Good (chrs (Str.ofString "")) := by
    rw [show chrs (Str.ofString "") = [] from by decide +kernel]
    exact ⟨fun c hc => (by cases hc), fun c hc => (by cases hc)⟩
  simp only [Bd.f17]
  rw [wr_cons]
  have hsz2 : (sz : Int) < 4611686018427387904 := by omega
  simp [hL, hD, hsz2]
  refine Wr.mono (wr_for (N := fun e σ => σ = [] ∧ ∃ t o, Good (chrs t) ∧ t.length = sz ∧ e = [some (.lst (r.map U.int)), some (.int k), some (.str (Str.ofString "abcdefghijklmnopqrstuvwxyz")), some (.str t), some (.int sz), some (.bl al), o, none]) (R := fun _ _ => False) (XS := fun _ _ _ _ => False)
    (fun i e σ => σ = [] ∧ ∃ t o, Good (chrs t) ∧ t.length = i ∧ e = [some (.lst (r.map U.int)), some (.int k), some (.str (Str.ofString "abcdefghijklmnopqrstuvwxyz")), some (.str t), some (.int sz), some (.bl al), o, none]) ⟨rfl, Str.ofString "", none, g0, (by decide +kernel), rfl⟩ ?_ ?_) ?_ (fun _ _ h => h.elim) (fun _ _ _ _ h => h.elim)
  · rintro i x e σ hx ⟨rfl, t, o, hg, ht, rfl⟩
    have hi : i < sz := by
      have := (List.getElem?_eq_some_iff.mp hx).1
      simpa using this
    have hxv : x = .int i := by
      rw [List.getElem?_map, List.getElem?_range hi] at hx
      cases hx
      rfl
    subst hxv
    refine ⟨_, rfl, ?_⟩
    by_cases h0 : i = 0
    · subst h0
      obtain ⟨c, hc, ec⟩ := let_at (j := r3 % 26) (by omega) (by omega)
      simp [-Array.mem_toList_iff, ps_cons, e3, hL, ec]
      refine ⟨⟨fun d hd => ?_, fun d hd => ?_⟩, rfl⟩
      · have : d = c := by simpa [chrs] using hd
        subst this
        exact .inl hc
      · have : c = d := by simpa [chrs] using hd
        subst this
        exact hc
    · have h0' : ¬ (i : Int) = 0 := by omega
      obtain ⟨v, bv, ev⟩ := row_at hr (j := 3 + (i : Int)) (by omega) (by omega)
      obtain ⟨c, hc, ec⟩ := an_at (j := v % 36) (by omega) (by omega)
      have hl2 : (Str.ofString "abcdefghijklmnopqrstuvwxyz" ++ Str.ofString "0123456789").length = 36 := by rw [len_app, hL, hD]
      have l3 : t.length + 1 ≤ 16777216 := by omega
      have l1 : (⟨#[c]⟩ : Str).length = 1 := rfl
      simp [-Array.mem_toList_iff, ps_cons, ev, hL, hD, hl2, ec, h0', h0, l1, l3]
      refine ⟨⟨fun d hd => ?_, fun d hd => ?_⟩, by rw [len_app, ht]; rfl⟩
      · rw [chrs_app, List.mem_append] at hd
        rcases hd with hd | hd
        · exact hg.1 d hd
        · have : d = c := by simpa [chrs] using hd
          subst this
          exact hc
      · rw [chrs_app] at hd
        cases q : chrs t with
        | nil => rw [len_chrs, q] at ht; simp at ht; omega
        | cons y ys =>
          rw [q] at hd
          have : y = d := by simpa using hd
          subst this
          exact hg.2 y (by rw [q]; rfl)
  · rintro e σ ⟨rfl, t, o, hg, ht, rfl⟩
    simp at ht
    exact ⟨rfl, t, o, hg, ht, rfl⟩
  · rintro e σ ⟨rfl, t, o, hg, ht, rfl⟩
    have fin : ∀ (a : Nat), a ≤ sz → Wr (pS G FF (pcallN G FF P (n + 1)) 0 17 (match Bd.f17.body with | .cons _ (.cons _ (.cons _ (.cons _ (.cons _ (.cons _ (.cons _ (.cons _ b))))))) => b | _ => .nil) none [] [some (.lst (r.map U.int)), some (.int k), some (.str (Str.ofString "abcdefghijklmnopqrstuvwxyz")), some (.str t), some (.int sz), some (.bl al), o, some (.int a)] [])
        (fun _ σ1 => Wo (endV false 0 .non σ1 false) (fun u σ => ∃ s, nameB s = true ∧ u = .str s ∧ σ = []) Nox) (fun u σ1 => Wo (endV false 0 u σ1 false) (fun u σ => ∃ s, nameB s = true ∧ u = .str s ∧ σ = []) Nox) (fun c fs _ σ1 => False) := by
      intro a ha
      obtain ⟨c, hc, ec⟩ := let_at (j := (r2 + k) % 26) (by omega) (by omega)
      have l1 : (⟨#[c]⟩ : Str).length = 1 := rfl
      have lt : t.length ≤ 16777216 := by omega
      have q1 : (cutS t none (some (a : Int))).length = a := by rw [len_chrs, chrs_take, List.length_take, ← len_chrs]; omega
      have q2 : (cutS t (some (a : Int)) none).length = sz - a := by rw [len_chrs, chrs_drop, List.length_drop, ← len_chrs]; omega
      have l2 : a + 1 ≤ 16777216 := by omega
      have l3 : a + 1 + (sz - a) ≤ 16777216 := by omega
      have hw : (cutS t none (some (a : Int)) ++ ⟨#[c]⟩).length = a + 1 := by rw [len_app, q1]; rfl
      generalize hz : cutS t none (some (a : Int)) ++ ⟨#[c]⟩ ++ cutS t (some (a : Int)) none = z
      have cz : chrs z = (chrs t).take a ++ c :: (chrs t).drop a := by
        rw [← hz, chrs_app, chrs_app, chrs_take, chrs_drop]
        simp [chrs]
      have lz : z.length = sz + 1 := by rw [← hz, len_app, hw, q2]; omega
      have gz : Good (chrs z) := by
        rw [cz]
        refine ⟨fun d hd => ?_, fun d hd => ?_⟩
        · rcases List.mem_append.mp hd with hd | hd
          · exact hg.1 d (List.mem_of_mem_take hd)
          · rcases List.mem_cons.mp hd with rfl | hd
            · exact .inl hc
            · exact hg.1 d (List.mem_of_mem_drop hd)
        · cases q : (chrs t).take a with
          | nil =>
            rw [q] at hd
            have : c = d := by simpa using hd
            subst this
            exact hc
          | cons y ys =>
            rw [q] at hd
            have : y = d := by simpa using hd
            subst this
            refine hg.2 y ?_
            have := congrArg List.head? (List.take_append_drop a (chrs t))
            rw [q] at this
            exact this.symm
      have e16 := v16 (G := G) (n := n) h16
      by_cases hk : z ∈ KEPT
      · obtain ⟨k1, k2⟩ := kept_x z hk
        have nm : nameB (z ++ Str.ofString "x") = true := name_of (by rw [len_app]; omega) k2 k1 ⟨fun d hd => by
          rw [chrs_app, List.mem_append] at hd
          rcases hd with hd | hd
          · exact gz.1 d hd
          · rw [show chrs (Str.ofString "x") = [120] from by decide +kernel] at hd
            have : d = 120 := by simpa using hd
            subst this
            exact .inl (by unfold isLet at *; omega), fun d hd => by
          rw [chrs_app] at hd
          cases q : chrs z with
          | nil => rw [len_chrs, q] at lz; simp at lz
          | cons y ys =>
            rw [q] at hd
            have : y = d := by simpa using hd
            subst this
            exact gz.2 y (by rw [q]; rfl)⟩
        have lx : (Str.ofString "x").length = 1 := by decide +kernel
        have l4 : sz + 1 + 1 ≤ 16777216 := by omega
        simp [-Array.mem_toList_iff, Bd.f17, ps_cons, wr_cons, e2, hL, ec, lt, l1, q1, q2, hw, l2, l3, hz, cal_p (F := FF) e16, in_strs, hk, lx, lz, l4, endV_0]
        exact nm
      · have nm : nameB z = true := name_of (by omega) (by omega) hk gz
        simp [-Array.mem_toList_iff, Bd.f17, ps_cons, wr_cons, e2, hL, ec, lt, l1, q1, q2, hw, l2, l3, hz, cal_p (F := FF) e16, in_strs, hk, endV_0]
        exact nm
    obtain ⟨a, ha⟩ : ∃ a : Nat, r1 % ((sz : Int) + 1) = (a : Int) := ⟨(r1 % ((sz : Int) + 1)).toNat, by have := Int.emod_nonneg r1 (show (sz : Int) + 1 ≠ 0 by omega); omega⟩
    have ha2 : a ≤ sz := by have := Int.emod_lt_of_pos r1 (show (0 : Int) < sz + 1 by omega); omega
    have hp : (0 : Int) < (sz : Int) + 1 := by omega
    cases al with
    | true =>
      rw [wr_cons]
      simp [e1, hp, ha]
      rw [wr_cons]
      simp
      exact fin a ha2
    | false =>
      rw [wr_cons]
      simp [e1, hp, ha]
      rw [wr_cons]
      simp
      rw [wr_cons]
      simp
      exact fin 0 (by omega)
theorem v17 (h16 : P 16 = some Bd.f16) (hP : P 17 = some Bd.f17) {r : List Int} (hr : Row r 15) {k : Int} (hk : 0 ≤ k ∧ k ≤ 10) : ∃ s, nameB s = true ∧ pcallN G FF P (n + 2) 17 [.lst (r.map U.int), .int k] [] = .ok (.str s) [] false := by
  obtain ⟨r0, b0, e0⟩ := row_at hr (j := 0) (by decide) (by decide)
  obtain ⟨r1, b1, e1⟩ := row_at hr (j := 1) (by decide) (by decide)
  obtain ⟨r2, b2, e2⟩ := row_at hr (j := 2) (by decide) (by decide)
  obtain ⟨r3, b3, e3⟩ := row_at hr (j := 3) (by decide) (by decide)
  have hL : (Str.ofString "abcdefghijklmnopqrstuvwxyz").length = 26 := by decide +kernel
  have hD : (Str.ofString "0123456789").length = 10 := by decide +kernel
  have W : Wo (pcallN G FF P (n + 2) 17 [.lst (r.map U.int), .int k] []) (fun u σ => ∃ s, nameB s = true ∧ u = .str s ∧ σ = []) Nox := by
    refine wo_call hP rfl ?_
    have m12 : 0 ≤ r0 % 12 ∧ r0 % 12 < 12 := by omega
    obtain ⟨z0, hz0⟩ : ∃ a : Nat, r0 % 12 = (a : Int) := ⟨(r0 % 12).toNat, by omega⟩
    have hz11 : z0 ≤ 11 := by omega
    simp only [Bd.f17]
    rw [wr_cons]
    simp
    rw [wr_cons]
    simp
    rw [wr_cons]
    simp [e0, hz0]
    rw [wr_cons]
    simp [e0]
    rw [wr_cons]
    by_cases hal : r0 / 12 % 2 = 0
    · simp [hal]
      rw [nm_rest h16 hr hk z0 true hz11]
      · exact trivial
      · rfl
    · obtain ⟨z1, hz1⟩ : ∃ a : Nat, (if 0 < (z0 : Int) - k then (z0 : Int) - k else 0) = (a : Int) := ⟨(if 0 < (z0 : Int) - k then (z0 : Int) - k else 0).toNat, by split <;> omega⟩
      have hz1' : z1 ≤ 11 := by split at hz1 <;> omega
      simp [hal]
      rw [wr_cons]
      have hm : biU .max [] [.int 0, .int ((z0 : Int) - k)] = some (.int z1) := by rw [bi_max, ← hz1]
      simp [-bi_max, hm]
      rw [nm_rest h16 hr hk z1 false hz1']
      · exact trivial
      · rfl
  revert W
  cases pcallN G FF P (n + 2) 17 [.lst (r.map U.int), .int k] [] with
  | bad => exact fun W => W.elim
  | exc c fs σ z => exact fun W => W.2.elim
  | ok u σ z =>
    rintro ⟨rfl, s, hs, rfl, rfl⟩
    exact ⟨s, hs, rfl⟩
end
end Dv
end

section
set_option Elab.async false
set_option autoImplicit false
set_option linter.all false
set_option maxRecDepth 100000
/-! V08: words and the spaces between them. -/
namespace Dv
open PySem L2 TL
/-- a word: not empty, short, without a space -/
def WG (w : Str) : Prop := 1 ≤ w.length ∧ w.length ≤ 12 ∧ 32 ∉ chrs w
theorem wg_name {w : Str} (h : nameB w = true) : WG w := by
  obtain ⟨_, _, h1, h2, h3⟩ := name_head h
  exact ⟨h2, h1, fun z => by have := h3 _ z; omega⟩
theorem wg_kept : ∀ w ∈ KEPT, WG w := by
  have : KEPT.all (fun w => decide (1 ≤ w.length) && decide (w.length ≤ 12) && !decide (32 ∈ chrs w)) = true := by decide +kernel
  intro w hw
  have := List.all_eq_true.mp this w hw
  simp only [Bool.and_eq_true, decide_eq_true_eq, Bool.not_eq_true', decide_eq_false_iff_not] at this
  exact ⟨this.1.1, this.1.2, this.2⟩
theorem wg_num {i : Int} (h : -1000000000 < i ∧ i < 1000000000) : WG (toString i) := by
  obtain ⟨h1, _, h3⟩ := num_word h
  unfold numB at h1
  simp only [Bool.and_eq_true, decide_eq_true_eq] at h1
  obtain ⟨⟨⟨h4, h5⟩, h6⟩, _⟩ := h1
  refine ⟨Nat.le_trans h4 (digs_len _), by omega, fun z => ?_⟩
  have dig : ∀ c ∈ chrs (digs (toString i)), 48 ≤ c ∧ c ≤ 57 := fun c hc => by
    have := List.all_eq_true.mp h6 c hc
    rwa [decide_eq_true_eq, DIG_mem] at this
  by_cases q : (chrs (Str.ofString (toString i))).head? = some 45
  · rw [digs_minus q] at dig
    cases e : chrs (Str.ofString (toString i)) with
    | nil => rw [e] at q; cases q
    | cons c r =>
      rw [e] at q z dig
      have : c = 45 := by injection q
      subst this
      rcases List.mem_cons.mp z with z | z
      · omega
      · have := dig 32 z
        omega
  · rw [digs_of q] at dig
    have := dig 32 z
    omega
theorem wg_ws : ∀ (a : Am) (b : Bool), a.wf b → ∀ w ∈ a.ws, WG w
  | .num i, true, h, w, hw => by
    have : w = Str.ofString (toString i) := by simpa [Am.ws] using hw
    rw [this]
    exact wg_num h
  | .num i, false, h, w, hw => by simp [Am.wf] at h
  | .fac s, true, h, w, hw => by
    rcases List.mem_cons.mp hw with rfl | hw
    · exact wg_kept _ (by simp [KEPT])
    · rw [List.mem_singleton.mp hw]; exact wg_name h
  | .fac s, false, h, w, hw => by simp [Am.wf] at h
  | .fao s a, true, h, w, hw => by
    rcases List.mem_cons.mp hw with rfl | hw
    · exact wg_kept _ (by simp [KEPT])
    rcases List.mem_cons.mp hw with rfl | hw
    · exact wg_name h.1
    rcases List.mem_cons.mp hw with rfl | hw
    · exact wg_kept _ (by simp [KEPT])
    · exact wg_ws a true h.2 w hw
  | .fao s a, false, h, w, hw => by simp [Am.wf] at h
  | .due s, true, h, w, hw => by
    rcases List.mem_cons.mp hw with rfl | hw
    · exact wg_kept _ (by simp [KEPT])
    · rw [List.mem_singleton.mp hw]; exact wg_name h
  | .due s, false, h, w, hw => by simp [Am.wf] at h
  | .kno s, false, h, w, hw => by
    rcases List.mem_cons.mp hw with rfl | hw
    · exact wg_kept _ (by simp [KEPT])
    · rw [List.mem_singleton.mp hw]; exact wg_name h
  | .kno s, true, h, w, hw => by simp [Am.wf] at h
  | .pct i a, true, h, w, hw => by
    rcases List.mem_cons.mp hw with rfl | hw
    · exact wg_kept _ (by simp [KEPT])
    rcases List.mem_cons.mp hw with rfl | hw
    · exact wg_num ⟨by have := h.1; omega, by have := h.2.1; omega⟩
    · exact wg_ws a true h.2.2 w hw
  | .pct i a, false, h, w, hw => by simp [Am.wf] at h
  | .ife c a b, true, h, w, hw => by
    rcases List.mem_cons.mp hw with rfl | hw
    · exact wg_kept _ (by simp [KEPT])
    rcases List.mem_append.mp hw with hw | hw
    · exact wg_ws c false h.1 w hw
    rcases List.mem_append.mp hw with hw | hw
    · exact wg_ws a true h.2.1 w hw
    · exact wg_ws b true h.2.2 w hw
  | .ife c a b, false, h, w, hw => by simp [Am.wf] at h
  | .nt c, true, h, w, hw => by simp [Am.wf] at h
  | .nt c, false, h, w, hw => by
    rcases List.mem_cons.mp hw with rfl | hw
    · exact wg_kept _ (by simp [KEPT])
    · exact wg_ws c false h w hw
  | .two k a b, true, h, w, hw => by
    rcases List.mem_cons.mp hw with rfl | hw
    · exact wg_kept _ (by cases k <;> simp [KEPT, K2.s])
    rcases List.mem_append.mp hw with hw | hw
    · exact wg_ws a true h.2.1 w hw
    · exact wg_ws b true h.2.2 w hw
  | .two k a b, false, h, w, hw => by
    simp only [Am.wf] at h
    obtain ⟨_, h⟩ := h
    rcases List.mem_cons.mp hw with rfl | hw
    · exact wg_kept _ (by cases k <;> simp [KEPT, K2.s])
    split at h
    · rcases List.mem_append.mp hw with hw | hw
      · exact wg_ws a false h.1 w hw
      · exact wg_ws b false h.2 w hw
    · rcases List.mem_append.mp hw with hw | hw
      · exact wg_ws a true h.1 w hw
      · exact wg_ws b true h.2 w hw
/-! ### the words of a list of signs -/
def wl (acc l : List Nat) : List (List Nat) := (spl [32] 0 acc l).filter fun p => !p.isEmpty
def one (acc : List Nat) : List (List Nat) := if acc.isEmpty then [] else [acc]
theorem wl_nil (acc : List Nat) : wl acc [] = one acc := by
  unfold wl one
  rw [spl_nil]
  cases acc <;> rfl
theorem pre_sp (c : Nat) (r : List Nat) : pre [32] (c :: r) = decide (c = 32) := by
  unfold pre
  show ([c] == [32]) = _
  by_cases h : c = 32
  · subst h; rfl
  · rw [decide_eq_false h]
    simp [h]
theorem wl_sp (acc r : List Nat) : wl acc (32 :: r) = one acc ++ wl [] r := by
  unfold wl one
  rw [spl_hit (by rw [pre_sp]; rfl), List.filter_cons]
  show (if (!acc.isEmpty) = true then acc :: _ else _) = _
  cases acc <;> rfl
theorem wl_ch {c : Nat} (acc r : List Nat) (h : c ≠ 32) : wl acc (c :: r) = wl (acc ++ [c]) r := by
  unfold wl
  rw [spl_miss (by rw [pre_sp]; simpa using h)]
theorem wl_app (b : List Nat) : ∀ (a acc : List Nat), wl acc (a ++ 32 :: b) = wl acc a ++ wl [] b
  | [], acc => by rw [List.nil_append, wl_sp, wl_nil]
  | c :: a, acc => by
    rw [List.cons_append]
    by_cases h : c = 32
    · subst h
      rw [wl_sp, wl_sp, wl_app b a [], List.append_assoc]
    · rw [wl_ch _ _ h, wl_ch _ _ h, wl_app b a]
theorem wl_word : ∀ (w acc : List Nat), 32 ∉ w → wl acc w = one (acc ++ w)
  | [], acc, _ => by rw [wl_nil, List.append_nil]
  | c :: w, acc, h => by
    rw [wl_ch _ _ (fun z => h (by rw [z]; exact List.mem_cons_self)), wl_word w _ (fun z => h (List.mem_cons_of_mem _ z)), List.append_assoc]
    rfl
theorem wl_rep (b : List Nat) : ∀ n : Nat, wl [] (List.replicate n 32 ++ b) = wl [] b
  | 0 => rfl
  | n + 1 => by
    rw [List.replicate_succ, List.cons_append, wl_sp, wl_rep b n]
    rfl
theorem wl_rep0 (n : Nat) : wl [] (List.replicate n 32) = [] := by
  have := wl_rep [] n
  rw [List.append_nil] at this
  rw [this, wl_nil]
  rfl
theorem wl_end (a : List Nat) (n : Nat) : wl [] (a ++ List.replicate n 32) = wl [] a := by
  cases n with
  | zero => rw [List.replicate_zero, List.append_nil]
  | succ n => rw [List.replicate_succ, wl_app, wl_rep0, List.append_nil]
theorem wl_next {a w : List Nat} {n : Nat} (hw : 32 ∉ w) (hne : w ≠ []) (h : 0 < n ∨ a = []) : wl [] (a ++ List.replicate n 32 ++ w) = wl [] a ++ [w] := by
  have ew : wl [] w = [w] := by
    rw [wl_word w [] hw, List.nil_append]
    unfold one
    cases w with
    | nil => exact absurd rfl hne
    | cons c r => rfl
  rcases h with h | h
  · obtain ⟨m, rfl⟩ : ∃ m, n = m + 1 := ⟨n - 1, by omega⟩
    rw [List.replicate_succ', List.append_assoc, List.append_assoc, ← List.append_assoc]
    show wl [] ((a ++ List.replicate m 32) ++ 32 :: w) = _
    rw [wl_app, wl_end, ew]
  · subst h
    rw [List.nil_append, wl_rep, ew]
    rfl
theorem wl_next0 {w : List Nat} {n : Nat} (hw : 32 ∉ w) (hne : w ≠ []) : wl [] (List.replicate n 32 ++ w) = [w] := by
  have := wl_next (a := []) (n := n) hw hne (.inr rfl)
  simpa [wl_nil, one] using this
theorem sp_tl : tl (Str.ofString " ") = [32] := by decide +kernel
theorem spl_len : ∀ (l acc : List Nat), (spl [32] 0 acc l).length ≤ l.length + 1
  | [], acc => by rw [spl_nil]; exact Nat.le_refl _
  | c :: r, acc => by
    by_cases h : c = 32
    · subst h
      rw [spl_hit (by rw [pre_sp]; rfl)]
      have := spl_len r []
      simp only [List.length_cons]
      exact Nat.succ_le_succ this
    · rw [spl_miss (by rw [pre_sp]; simpa using h)]
      have := spl_len r (acc ++ [c])
      simp only [List.length_cons]
      omega
theorem split_len (t : Str) : (Txt.split t (Str.ofString " ")).length ≤ t.length + 1 := by
  have := split_spl t (Str.ofString " ") (by rw [sp_tl]; simp) (kind_ok (by decide +kernel))
  rw [sp_tl] at this
  have e := congrArg List.length this
  rw [List.length_map] at e
  rw [e, len_tl]
  exact spl_len _ _
theorem words_tl (t : Str) : (wordsOf t).map tl = wl [] (tl t) := by
  have := split_spl t (Str.ofString " ") (by rw [sp_tl]; simp) (kind_ok (by decide +kernel))
  rw [sp_tl] at this
  unfold wordsOf wl
  rw [← this, List.filter_map]
  congr 1
  refine List.filter_congr fun w _ => ?_
  show (!decide (w = Str.ofString "")) = !(tl w).isEmpty
  by_cases h : w = Str.ofString ""
  · subst h
    rw [show tl (Str.ofString "") = [] from by decide +kernel]
    simp
  · rw [decide_eq_false h]
    cases q : tl w with
    | nil => exact absurd (ext_tl (by rw [q]; exact (show tl (Str.ofString "") = [] from by decide +kernel).symm)) h
    | cons c r => rfl
theorem words_of {t : Str} {ws : List Str} (h : wl [] (tl t) = ws.map tl) : wordsOf t = ws := map_tl_inj (by rw [words_tl, h])
theorem words_join {ws : List Str} (hne : ws ≠ []) (h : ∀ w ∈ ws, WG w) : wordsOf (Txt.join (Str.ofString " ") ws) = ws := by
  have e := split_join (y := Str.ofString " ") (s := 32) (S := []) sp_tl (by decide +kernel) hne (fun w hw => (h w hw).2.2)
  unfold wordsOf
  rw [e]
  refine List.filter_eq_self.mpr fun w hw => ?_
  have : w ≠ Str.ofString "" := fun z => by
    have := (h w hw).1
    rw [z, show (Str.ofString "").length = 0 from by decide +kernel] at this
    omega
  simpa using this
theorem join_len {ws : List Str} (h : ∀ w ∈ ws, WG w) : (Txt.join (Str.ofString " ") ws).length ≤ 13 * ws.length := by
  rw [join_eq]
  induction ws with
  | nil => exact Nat.le_refl _
  | cons w r ih =>
    have ih := ih fun x hx => h x (List.mem_cons_of_mem _ hx)
    have hw := (h w List.mem_cons_self).2.1
    cases r with
    | nil => show w.length ≤ _; simp only [List.length_cons, List.length_nil]; omega
    | cons y r =>
      show (w ++ Str.ofString " " ++ Str.join (Str.ofString " ") (y :: r)).length ≤ _
      rw [len_app, len_app, show (Str.ofString " ").length = 1 from by decide +kernel]
      simp only [List.length_cons] at ih ⊢
      omega
theorem sum_len {ws : List Str} (h : ∀ w ∈ ws, WG w) : (ws.map (·.length)).sum ≤ 12 * ws.length := by
  induction ws with
  | nil => exact Nat.le_refl _
  | cons w r ih =>
    have ih := ih fun x hx => h x (List.mem_cons_of_mem _ hx)
    have hw := (h w List.mem_cons_self).2.1
    simp only [List.map_cons, List.sum_cons, List.length_cons]
    omega
theorem rep_tl (n : Nat) : tl (repS (Str.ofString " ") n) = List.replicate n 32 := by
  show (List.replicate n (tl (Str.ofString " "))).flatten = _
  rw [sp_tl]
  induction n with
  | zero => rfl
  | succ n ih => rw [List.replicate_succ, List.flatten_cons, ih]; rfl
theorem rep_len (n : Nat) : (repS (Str.ofString " ") n).length = n := by rw [len_tl, rep_tl, List.length_replicate]
/-! ### the words with drawn spaces -/
section
variable {G : Gl} {P : Nat → Option Def} {n : Nat}
theorem v25 (hP : P 25 = some Bd.f25) {ws : List Str} (hw : ∀ w ∈ ws, WG w) (hl : ws.length ≤ 1000) {r : List Int} (hr : Row r 8) :
    ∃ t, wordsOf t = ws ∧ t.length ≤ 15 * ws.length + 4 ∧ pcallN G FF P (n + 1) 25 [.lst (ws.map U.str), .lst (r.map U.int)] [] = .ok (.str t) [] false := by
  obtain ⟨r0, b0, e0⟩ := row_at hr (j := 0) (by decide) (by decide)
  obtain ⟨r6, b6, e6⟩ := row_at hr (j := 6) (by decide) (by decide)
  have hS : (Str.ofString " ").length = 1 := by decide +kernel
  have W : Wo (pcallN G FF P (n + 1) 25 [.lst (ws.map U.str), .lst (r.map U.int)] []) (fun u σ => ∃ t, wordsOf t = ws ∧ t.length ≤ 15 * ws.length + 4 ∧ u = .str t ∧ σ = []) Nox := by
    refine wo_call hP rfl ?_
    obtain ⟨s0, hs0, hs0'⟩ : ∃ a : Nat, r0 % 3 = (a : Int) ∧ a ≤ 2 := ⟨(r0 % 3).toNat, by omega, by omega⟩
    obtain ⟨s6, hs6, hs6'⟩ : ∃ a : Nat, r6 % 3 = (a : Int) ∧ a ≤ 2 := ⟨(r6 % 3).toNat, by omega, by omega⟩
    have hl2 : (ws.length : Int) < 4611686018427387904 := by omega
    have c0 : (s0 : Int) ≤ 1000 := by omega
    have c6 : (s6 : Int) ≤ 1000 := by omega
    simp only [Bd.f25]
    rw [wr_cons]
    simp [e0, hs0, hS, c0]
    rw [wr_cons]
    simp [hl2]
    refine Wr.mono (wr_for (N := fun e σ => σ = [] ∧ ∃ t o, wl [] (tl t) = ws.map tl ∧ t.length ≤ 15 * ws.length + 2 ∧ e = [some (.lst (ws.map U.str)), some (.lst (r.map U.int)), some (.str t), o]) (R := fun _ _ => False) (XS := fun _ _ _ _ => False)
      (fun i e σ => σ = [] ∧ ∃ t o, wl [] (tl t) = (ws.take i).map tl ∧ t.length ≤ 15 * i + 2 ∧ (i = 0 → ∃ m, tl t = List.replicate m 32) ∧ e = [some (.lst (ws.map U.str)), some (.lst (r.map U.int)), some (.str t), o])
      ⟨rfl, repS (Str.ofString " ") s0, none, by rw [rep_tl, wl_rep0]; rfl, by rw [rep_len]; omega, fun _ => ⟨s0, rep_tl s0⟩, rfl⟩ ?_ ?_) ?_ (fun _ _ h => h.elim) (fun _ _ _ _ h => h.elim)
    · rintro i x e σ hx ⟨rfl, t, o, ht, hlen, hz, rfl⟩
      have hi : i < ws.length := by
        have := (List.getElem?_eq_some_iff.mp hx).1
        simpa using this
      have hxv : x = .int i := by
        rw [List.getElem?_map, List.getElem?_range hi] at hx
        cases hx
        rfl
      subst hxv
      refine ⟨_, rfl, ?_⟩
      have ew : atI (ws.map U.str) (i : Int) = some (.str ws[i]) := by rw [atI_natU, List.getElem?_map, List.getElem?_eq_getElem hi]; rfl
      have g := hw ws[i] (List.getElem_mem hi)
      have ne : tl ws[i] ≠ [] := fun z => by have := g.1; rw [len_tl, z] at this; simp at this
      have tk : (ws.take (i + 1)).map tl = (ws.take i).map tl ++ [tl ws[i]] := by rw [List.take_succ_eq_append_getElem hi, List.map_append]; rfl
      by_cases h0 : i = 0
      · subst h0
        obtain ⟨m, hm⟩ := hz rfl
        have l3 : t.length + ws[0].length ≤ 16777216 := by have := g.2.1; omega
        have ew0 : atI (ws.map U.str) 0 = some (.str ws[0]) := ew
        simp [ps_cons, ew0, l3]
        refine ⟨?_, by rw [len_app]; have := g.2.1; omega⟩
        rw [tl_append, hm, wl_next0 g.2.2 ne, ← List.map_take, tk, List.take_zero]
        rfl
      · have h0' : (0 : Int) < (i : Int) := by omega
        obtain ⟨v, bv, ev⟩ := row_at hr (j := 1 + (i : Int) % 5) (by omega) (by omega)
        have d1 : (0 : Int) < 1 + (i : Int) ∧ 1 + (i : Int) < 18446744073709551616 := by omega
        have d2 := Int.ediv_nonneg bv.1 (show (0 : Int) ≤ 1 + i by omega)
        obtain ⟨m, hm, hm1, hm2⟩ : ∃ a : Nat, 1 + v / (1 + (i : Int)) % 3 = (a : Int) ∧ 1 ≤ a ∧ a ≤ 3 := ⟨(1 + v / (1 + (i : Int)) % 3).toNat, by omega, by omega, by omega⟩
        have cm : (m : Int) ≤ 1000 := by omega
        have lm := rep_len m
        have l3 : t.length + m ≤ 16777216 := by omega
        have l5 : t.length + m + ws[i].length ≤ 16777216 := by have := g.2.1; omega
        have lq : (t ++ repS (Str.ofString " ") m).length = t.length + m := by rw [len_app, lm]
        have h0n : 0 < i := by omega
        simp [ps_cons, ew, h0n, ev, d1.1, d1.2, hm, hS, cm, lm, l3, lq, l5]
        refine ⟨?_, by rw [len_app, lq]; have := g.2.1; omega⟩
        rw [tl_append, tl_append, rep_tl, wl_next g.2.2 ne (.inl (by omega)), ht, ← List.map_take, tk]
    · rintro e σ ⟨rfl, t, o, ht, hlen, _, rfl⟩
      simp at ht hlen
      exact ⟨rfl, t, o, ht, by omega, rfl⟩
    · rintro e σ ⟨rfl, t, o, ht, hlen, rfl⟩
      have l6 := rep_len s6
      have l3 : t.length + s6 ≤ 16777216 := by omega
      simp [ps_cons, e6, hs6, hS, c6, l6, l3, endV_0]
      refine ⟨words_of ?_, by rw [len_app, l6]; omega⟩
      rw [tl_append, rep_tl, wl_end, ht]
  revert W
  cases pcallN G FF P (n + 1) 25 [.lst (ws.map U.str), .lst (r.map U.int)] [] with
  | bad => exact fun W => W.elim
  | exc c fs σ z => exact fun W => W.2.elim
  | ok u σ z =>
    rintro ⟨rfl, t, h1, h2, rfl, rfl⟩
    exact ⟨t, h1, h2, rfl⟩
/-- names -/
theorem v18 (h15 : P 15 = some Bd.f15) (h16 : P 16 = some Bd.f16) (h17 : P 17 = some Bd.f17) (h18 : P 18 = some Bd.f18) (ns : List Int) (place many : Nat) (hp : place ≤ 1000) (hm : many ≤ 10) :
    ∃ fs : List Str, fs.length = many ∧ (∀ s ∈ fs, nameB s = true) ∧ pcallN G FF P (n + 3) 18 [.rol ns, .int place, .int many] [] = .ok (.lst (fs.map U.str)) [] false := by
  obtain ⟨r, hr, e15⟩ := v15 (G := G) (n := n + 1) h15 ns place 15 hp (by decide)
  have e15 : pcallN G FF P (n + 2) 15 [.rol ns, .int place, .int 15] [] = .ok (.lst (r.map U.int)) [] false := e15
  have e17 := fun (k : Nat) (hk : k ≤ 10) => v17 (G := G) (n := n) h16 h17 hr (k := (k : Int)) (by omega)
  have : ∃ nm : Nat → Str, ∀ k : Nat, k ≤ 10 → nameB (nm k) = true ∧ pcallN G FF P (n + 2) 17 [.lst (r.map U.int), .int (k : Int)] [] = .ok (.str (nm k)) [] false := by
    refine ⟨fun k => if h : k ≤ 10 then (e17 k h).choose else "", fun k hk => ?_⟩
    simp only [dif_pos hk]
    exact (e17 k hk).choose_spec
  obtain ⟨nm, hnm⟩ := this
  refine ⟨(List.range many).map nm, by simp, fun s hs => ?_, ?_⟩
  · obtain ⟨k, hk, rfl⟩ := List.mem_map.mp hs
    exact (hnm k (by have := List.mem_range.mp hk; omega)).1
  · have c : (many : Int) < 4611686018427387904 := by omega
    rw [pcall_eq h18 rfl]
    simp [Bd.f18, ps_cons, cal_p (F := FF) e15, c]
    rw [comp_v (fun (i : Nat) => U.int (i : Int)) (fun _ => true) (fun i => U.str (nm i)) (by simp; omega)]
    · have l : many ≤ 16777216 := by omega
      have q := lcL_strs (m := 0) ((List.range many).map nm)
      rw [List.map_map] at q
      rw [show (List.range many).filter (fun _ => true) = List.range many from List.filter_eq_self.mpr fun _ _ => rfl]
      have e : (List.range many).map (U.str ∘ nm) = (List.range many).map fun i => U.str (nm i) := rfl
      rw [e] at q
      rw [e]
      simp [endV_0, l, q]
    · intro k hk
      have hk : k < many := List.mem_range.mp hk
      have e := (hnm k (by omega)).2
      refine ⟨_, rfl, ?_, fun _ => ?_⟩
      · simp
      · simp [cal_p (F := FF) e]
end
end Dv
end

section
set_option Elab.async false
set_option autoImplicit false
set_option linter.all false
set_option maxRecDepth 100000
/-! V09: the law of the texts there and back. -/
namespace Dv
open PySem L2
/-- what the law is made of -/
structure QQ (P : Nat → Option Def) : Prop where
  h1 : P 1 = some Bd.f1
  h11 : P 11 = some Bd.f11
  h12 : P 12 = some Bd.f12
  h13 : P 13 = some Bd.f13
  h14 : P 14 = some Bd.f14
  h15 : P 15 = some Bd.f15
  h16 : P 16 = some Bd.f16
  h17 : P 17 = some Bd.f17
  h18 : P 18 = some Bd.f18
  h19 : P 19 = some Bd.f19
  h20 : P 20 = some Bd.f20
  h21 : P 21 = some Bd.f21
  h22 : P 22 = some Bd.f22
  h23 : P 23 = some Bd.f23
  h24 : P 24 = some Bd.f24
  h25 : P 25 = some Bd.f25
  h26 : P 26 = some Bd.f26
  h27 : P 27 = some Bd.f27
theorem Am.rg : ∀ a : Am, a.u.rg = true ∧ a.u.dh ≤ a.dep
  | .num i => ⟨rfl, Nat.le_refl _⟩
  | .fac s => ⟨rfl, Nat.le_refl _⟩
  | .fao s a => by
    obtain ⟨h1, h2⟩ := a.rg
    refine ⟨by simp [Am.u, U.rg, rgL, h1], ?_⟩
    simp [Am.u, U.dh, dhL, Am.dep]; omega
  | .due s => ⟨rfl, Nat.le_refl _⟩
  | .kno s => ⟨rfl, Nat.le_refl _⟩
  | .pct i a => by
    obtain ⟨h1, h2⟩ := a.rg
    refine ⟨by simp [Am.u, U.rg, rgL, h1], ?_⟩
    simp [Am.u, U.dh, dhL, Am.dep]; omega
  | .ife c a b => by
    obtain ⟨h1, h2⟩ := a.rg
    obtain ⟨h3, h4⟩ := b.rg
    obtain ⟨h5, h6⟩ := c.rg
    refine ⟨by simp [Am.u, U.rg, rgL, h1, h3, h5], ?_⟩
    simp [Am.u, U.dh, dhL, Am.dep]; omega
  | .nt c => by
    obtain ⟨h1, h2⟩ := c.rg
    refine ⟨by simp [Am.u, U.rg, rgL, h1], ?_⟩
    simp [Am.u, U.dh, dhL, Am.dep]; omega
  | .two k a b => by
    obtain ⟨h1, h2⟩ := a.rg
    obtain ⟨h3, h4⟩ := b.rg
    refine ⟨by simp [Am.u, U.rg, rgL, h1, h3], ?_⟩
    simp [Am.u, U.dh, dhL, Am.dep]; omega
section
variable {G : Gl} {P : Nat → Option Def}
theorem v27 (g : GC G) (p : PP P) (q : QQ P) (ns : List Int) (n : Nat) (hn : 20 ≤ n) : pcallN G FF P (n + 1) 27 [.rol ns] [] = .ok (.bl true) [] false := by
  refine Wo.eq ?_
  refine wo_call q.h27 rfl ?_
  obtain ⟨n, rfl⟩ : ∃ m, n = m + 20 := ⟨n - 20, by omega⟩
  obtain ⟨fs, lf, hf, ef⟩ := v18 (G := G) (n := n + 17) q.h15 q.h16 q.h17 q.h18 ns 0 3 (by decide) (by decide)
  obtain ⟨rs, lr, hr, er⟩ := v18 (G := G) (n := n + 17) q.h15 q.h16 q.h17 q.h18 ns 1 3 (by decide) (by decide)
  have ef : pcallN G FF P (n + 20) 18 [.rol ns, .int 0, .int 3] [] = .ok (.lst (fs.map U.str)) [] false := ef
  have er : pcallN G FF P (n + 20) 18 [.rol ns, .int 1, .int 3] [] = .ok (.lst (rs.map U.str)) [] false := er
  simp only [Bd.f27]
  rw [wr_cons]
  simp [cal_p (F := FF) ef, freshE]
  rw [wr_cons]
  simp [cal_p (F := FF) er, freshE]
  rw [wr_cons]
  simp
  refine wr_for (fun _ e σ => ∃ (rows : List (List Int)) (o3 o4 o5 o6 o7 o8 o9 : Option U), σ = rows.map (fun r => U.lst (r.map U.int)) ∧ e = [some (.rol ns), some (.lst (fs.map U.str)), some (.lst (rs.map U.str)), o3, o4, o5, o6, o7, o8, o9]) ⟨[], none, none, none, none, none, none, none, rfl, rfl⟩ ?_ ?_
  · rintro i x e σ hx ⟨rows, o3, o4, o5, o6, o7, o8, o9, rfl, rfl⟩
    have hi : i < 6 := by
      have := (List.getElem?_eq_some_iff.mp hx).1
      simpa using this
    have hxv : x = .int (2 + i) := by
      rw [List.getElem?_map, List.getElem?_range hi] at hx
      cases hx
      rfl
    subst hxv
    refine ⟨_, rfl, ?_⟩
    obtain ⟨r1, hr1, e1⟩ := v15 (G := G) (n := n + 19) q.h15 ns (2 + i) 90 (by omega) (by decide)
    obtain ⟨r2, hr2, e2⟩ := v15 (G := G) (n := n + 19) q.h15 ns (12 + i) 8 (by omega) (by decide)
    have e1 : pcallN G FF P (n + 20) 15 [.rol ns, .int (2 + i), .int 90] [] = .ok (.lst (r1.map U.int)) [] false := by rw [show (2 : Int) + i = ((2 + i : Nat) : Int) by omega]; exact e1
    have e2 : pcallN G FF P (n + 20) 15 [.rol ns, .int (2 + i + 10), .int 8] [] = .ok (.lst (r2.map U.int)) [] false := by rw [show (2 : Int) + i + 10 = ((12 + i : Nat) : Int) by omega]; exact e2
    have lcr : ∀ (m : Nat) (rows : List (List Int)), lcL m (rows.map (fun r => U.lst (r.map U.int))) = true := fun m rows => lcL_map (fun r => by show U.lc m (.lst (r.map U.int)) = true; simp) rows
    obtain ⟨a, ys, ha, hd, h40, e3⟩ := v24 (G := G) (σ := (rows ++ [r1]).map (fun r => U.lst (r.map U.int))) (k := rows.length) q.h19 q.h20 q.h21 q.h22 q.h23 q.h24 (by simp) (lcr _ _) (fs := fs) (rs := rs) (by omega) (by omega) (n + 20) (by omega) r1
    have hs1 : cs ((rows ++ [r1]).map (fun r => U.lst (r.map U.int))) rows.length r1 = (rows ++ [r1]).map (fun r => U.lst (r.map U.int)) := set_self (by simp)
    have hs2 : cs ((rows ++ [r1]).map (fun r => U.lst (r.map U.int))) rows.length ys = (rows ++ [ys]).map (fun r => U.lst (r.map U.int)) := by
      unfold cs
      simp
    rw [hs1, hs2] at e3
    have wf := a.wf_of hf hr true ha
    have wg := wg_ws a true wf
    have sm := a.sm_of true ha
    have e4 := v23 (G := G) q.h23 a (n + 20) sm (by omega) (by omega)
    have e5 := v13 (G := G) (n := n + 19) q.h12 q.h13 sm (by omega) (by omega) (by have := sum_len wg; omega)
    obtain ⟨t, ht, lt, e6⟩ := v25 (G := G) (n := n + 19) q.h25 wg (by omega) hr2
    have ne := (ws_head a).1
    have e7 := v11 (G := G) (n := n + 19) g p q.h1 q.h11 (t := t) (a := a) (by omega) (by have := split_len t; omega) ht h40 wf (by omega)
    have jl := join_len wg
    have e8 := v11 (G := G) (n := n + 19) g p q.h1 q.h11 (t := Txt.join (Str.ofString " ") a.ws) (a := a) (by omega) (by have := split_len (Txt.join (Str.ofString " ") a.ws); omega) (words_join ne wg) h40 wf (by omega)
    obtain ⟨rg, rd⟩ := a.rg
    have e9 := v26 (G := G) q.h14 q.h26 4 a.u (n + 20) (by omega) rg (by omega)
    rw [wr_cons]
    simp [cal_p (F := FF) e1, freshE]
    rw [List.map_append, List.map_append] at e3
    simp only [List.map_cons, List.map_nil] at e3
    have st : strsU (a.ws.map U.str) = some a.ws := by
      generalize a.ws = l
      induction l with
      | nil => rfl
      | cons x r ih => show (strsU (r.map U.str)).map (x :: ·) = _; rw [ih]; rfl
    have hb : ∀ (m : Nat) (σ : Cs), bmU [] m .join σ (.str (Str.ofString " ")) [.lst (a.ws.map U.str)] = .ok (.str (Txt.join (Str.ofString " ") a.ws)) σ false := fun m σ => by
      unfold bmU
      simp only [lstU_lst, Option.bind_some, st]
      rw [if_pos (by show (a.ws.map (·.length)).sum + a.ws.length * 1 ≤ 16777216; have := sum_len wg; omega)]
    rw [wr_cons]
    simp [cal_p (F := FF) e2, freshE]
    rw [wr_cons]
    simp [calU_io, e3, freshE]
    rw [wr_cons]
    simp [cal_p (F := FF) e4, freshE]
    rw [wr_cons]
    simp [cal_p (F := FF) e5, freshE]
    rw [wr_cons]
    simp [hb, bmTyU]
    rw [wr_cons]
    simp [cal_p (F := FF) e6, ps_cons, forU_cons, forU_nil, cal_p (F := FF) e7, cal_p (F := FF) e8, cal_p (F := FF) e9]
    exact ⟨rows ++ [ys], by simp⟩
  · rintro e σ ⟨rows, o3, o4, o5, o6, o7, o8, o9, rfl, rfl⟩
    simp [ps_cons]
    rw [endV_m (u := .bl true) (m := 0) (by simp) (by simp)]
    simp
end
end Dv
end

set_option Elab.async false
set_option linter.all false
set_option maxRecDepth 100000
set_option maxHeartbeats 0
/-! the tables of duewrits_k01_texts_there_and_back, printed by gen.py -/
namespace LW
open PySem PySem.Spec PyProof.Rows L2 Dv Bd
def top (i : Nat) : Stmt := PySem.Challenge.pw_duewrits_k01_texts_there_and_back.main.body.getD i (.Pass ⟨0, 0, 0, 0⟩)
def mkD (c : Str) (m : Option Str) (n q : Str) (s : Stmt) : He.DefD := ⟨(c, m), n, q, defArgs s, defBody s, defScope s, [], []⟩
def s0 : Stmt := inClass (top 2) 0
def d0 : Dm := (mkD "BadText" (some "__init__") "__init__" "BadText.__init__" s0, f0, ["self", "at"], ["self", "at"])
def s1 : Stmt := top 10
def d1 : Dm := (mkD "split_words" none "split_words" "split_words" s1, f1, ["text", "word"], ["text"])
def s2 : Stmt := top 11
def d2 : Dm := (mkD "is_name" none "is_name" "is_name" s2, f2, ["word", "char"], ["word"])
def s3 : Stmt := top 12
def d3 : Dm := (mkD "is_number" none "is_number" "is_number" s3, f3, ["word", "digits", "char"], ["word"])
def s4 : Stmt := top 13
def d4 : Dm := (mkD "word_at" none "word_at" "word_at" s4, f4, ["words", "at"], ["words", "at"])
def s5 : Stmt := top 20
def d5 : Dm := (mkD "parse_name" none "parse_name" "parse_name" s5, f5, ["words", "at", "name"], ["words", "at"])
def s6 : Stmt := top 21
def d6 : Dm := (mkD "parse_fact" none "parse_fact" "parse_fact" s6, f6, ["words", "at", "name", "other"], ["words", "at"])
def s7 : Stmt := top 22
def d7 : Dm := (mkD "parse_percent" none "parse_percent" "parse_percent" s7, f7, ["words", "at", "word", "amount", "after"], ["words", "at"])
def s8 : Stmt := top 23
def d8 : Dm := (mkD "parse_if" none "parse_if" "parse_if" s8, f8, ["words", "at", "condition", "first", "second"], ["words", "at"])
def s9 : Stmt := top 24
def d9 : Dm := (mkD "parse_part" none "parse_part" "parse_part" s9, f9, ["words", "at", "word", "name", "after", "first", "second"], ["words", "at"])
def s10 : Stmt := top 25
def d10 : Dm := (mkD "parse_condition" none "parse_condition" "parse_condition" s10, f10, ["words", "at", "word", "name", "after", "condition", "first", "second"], ["words", "at"])
def s11 : Stmt := top 26
def d11 : Dm := (mkD "parse_amount" none "parse_amount" "parse_amount" s11, f11, ["text", "words", "amount", "at"], ["text"])
def s12 : Stmt := top 27
def d12 : Dm := (mkD "amount_words" none "amount_words" "amount_words" s12, f12, ["part", "kind", "words", "one"], ["part"])
def s13 : Stmt := top 28
def d13 : Dm := (mkD "format_amount" none "format_amount" "format_amount" s13, f13, ["amount"], ["amount"])
def s14 : Stmt := top 30
def d14 : Dm := (mkD "_law_is_integer" none "_law_is_integer" "_law_is_integer" s14, f14, ["_law_x"], ["_law_x"])
def s15 : Stmt := top 31
def d15 : Dm := (mkD "_law_row" none "_law_row" "_law_row" s15, f15, ["_law_script", "_law_place", "_law_many", "_law_cell", "_law_rest", "_law_row_here", "_law_k", "_law_mixed"], ["_law_script", "_law_place", "_law_many"])
def s16 : Stmt := top 32
def d16 : Dm := (mkD "_law_kept" none "_law_kept" "_law_kept" s16, f16, [], [])
def s17 : Stmt := top 33
def d17 : Dm := (mkD "_law_name" none "_law_name" "_law_name" s17, f17, ["_law_row_here", "_law_k", "_law_letters", "_law_text", "_law_size", "_law_alike", "_law_i", "_law_at"], ["_law_row_here", "_law_k"])
def s18 : Stmt := top 34
def d18 : Dm := (mkD "_law_names" none "_law_names" "_law_names" s18, f18, ["_law_script", "_law_place", "_law_many", "_law_row_here", "_law_k"], ["_law_script", "_law_place", "_law_many"])
def s19 : Stmt := top 35
def d19 : Dm := (mkD "_law_next" none "_law_next" "_law_next" s19, f19, ["_law_draws", "_law_many"], ["_law_draws", "_law_many"])
def s20 : Stmt := top 36
def d20 : Dm := (mkD "_law_number" none "_law_number" "_law_number" s20, f20, ["_law_draws"], ["_law_draws"])
def s21 : Stmt := top 37
def d21 : Dm := (mkD "_law_amount" none "_law_amount" "_law_amount" s21, f21, ["_law_draws", "_law_depth", "_law_facts", "_law_rules", "_law_kind", "_law_name_here", "_law_part", "_law_condition_here", "_law_first", "_law_second"], ["_law_draws", "_law_depth", "_law_facts", "_law_rules"])
def s22 : Stmt := top 38
def d22 : Dm := (mkD "_law_condition" none "_law_condition" "_law_condition" s22, f22, ["_law_draws", "_law_depth", "_law_facts", "_law_rules", "_law_kind", "_law_first"], ["_law_draws", "_law_depth", "_law_facts", "_law_rules"])
def s23 : Stmt := top 39
def d23 : Dm := (mkD "_law_words" none "_law_words" "_law_words" s23, f23, ["_law_part", "_law_kind", "_law_words_here", "_law_one"], ["_law_part"])
def s24 : Stmt := top 40
def d24 : Dm := (mkD "_law_rule_amount" none "_law_rule_amount" "_law_rule_amount" s24, f24, ["_law_draws", "_law_facts", "_law_rules", "_law_part"], ["_law_draws", "_law_facts", "_law_rules"])
def s25 : Stmt := top 41
def d25 : Dm := (mkD "_law_spaced" none "_law_spaced" "_law_spaced" s25, f25, ["_law_words_here", "_law_row_here", "_law_text", "_law_k"], ["_law_words_here", "_law_row_here"])
def s26 : Stmt := top 42
def d26 : Dm := (mkD "_law_same" none "_law_same" "_law_same" s26, f26, ["_law_actual", "_law_due", "_law_k"], ["_law_actual", "_law_due"])
def s27 : Stmt := top 43
def d27 : Dm := (mkD "law" none "law" "law" s27, f27, ["_law_script", "_law_facts", "_law_rules", "_law_place", "_law_draws", "_law_spaces", "_law_part", "_law_words_here", "_law_text", "_law_given"], ["_law_script"])
def ds0 : List (Nat × Dm) := [(0, d0), (1, d1), (2, d2), (3, d3), (4, d4), (5, d5), (6, d6), (7, d7), (8, d8), (9, d9), (10, d10), (11, d11), (12, d12), (13, d13), (14, d14), (15, d15)]
def ds1 : List (Nat × Dm) := [(16, d16), (17, d17), (18, d18), (19, d19), (20, d20), (21, d21), (22, d22), (23, d23), (24, d24), (25, d25), (26, d26), (27, d27)]
def c0 : CI := { nm := "WritError", xc := true, ve := true, sup := ["WritError"] }
def c1 : CI := { nm := "BadText", xc := true, ve := true, sup := ["BadText", "WritError"], fs := ["at"], xi := some ["at"], xg := 0 }
def c2 : CI := { nm := "NotAllowed", xc := true, ve := true, sup := ["NotAllowed", "WritError"], raw := true }
def tab : Tabs where
  cs := [(0, c0), (1, c1), (2, c2)]
  ds := ds0 ++ ds1
  gs := [(0, "LETTERS", .str "abcdefghijklmnopqrstuvwxyz"), (1, "DIGITS", .str "0123456789"), (2, "KEPT", .sts ["fact", "known", "due", "or", "plus", "minus", "times", "least", "most", "percent", "if", "below", "same", "not", "both", "either"]), (3, "MOST_CHARACTERS", .int 12), (4, "MOST_DIGITS", .int 9), (5, "PAIRS", .sts ["plus", "minus", "times", "least", "most"]), (6, "TESTS", .sts ["below", "same"]), (7, "JOINTS", .sts ["both", "either"]), (8, "MOST_WORDS", .int 40), (9, "MOST_PERCENT", .int 1000)]
  mn := []
theorem o0 : OkDef tab d0 := ⟨by kernel_rfl, rfl, rfl, rfl, rfl, by kernel_rfl, fun _ _ _ F s us hl => F.bindsA (fun _ _ _ _ _ _ us hl => match us, hl with | [_, _], _ => rfl) s us hl⟩
theorem o1 : OkDef tab d1 := ⟨by kernel_rfl, rfl, rfl, rfl, rfl, by kernel_rfl, fun _ _ _ F s us hl => F.bindsA (fun _ _ _ _ _ _ us hl => match us, hl with | [_], _ => rfl) s us hl⟩
theorem o2 : OkDef tab d2 := ⟨by kernel_rfl, rfl, rfl, rfl, rfl, by kernel_rfl, fun _ _ _ F s us hl => F.bindsA (fun _ _ _ _ _ _ us hl => match us, hl with | [_], _ => rfl) s us hl⟩
theorem o3 : OkDef tab d3 := ⟨by kernel_rfl, rfl, rfl, rfl, rfl, by kernel_rfl, fun _ _ _ F s us hl => F.bindsA (fun _ _ _ _ _ _ us hl => match us, hl with | [_], _ => rfl) s us hl⟩
theorem o4 : OkDef tab d4 := ⟨by kernel_rfl, rfl, rfl, rfl, rfl, by kernel_rfl, fun _ _ _ F s us hl => F.bindsA (fun _ _ _ _ _ _ us hl => match us, hl with | [_, _], _ => rfl) s us hl⟩
theorem o5 : OkDef tab d5 := ⟨by kernel_rfl, rfl, rfl, rfl, rfl, by kernel_rfl, fun _ _ _ F s us hl => F.bindsA (fun _ _ _ _ _ _ us hl => match us, hl with | [_, _], _ => rfl) s us hl⟩
theorem o6 : OkDef tab d6 := ⟨by kernel_rfl, rfl, rfl, rfl, rfl, by kernel_rfl, fun _ _ _ F s us hl => F.bindsA (fun _ _ _ _ _ _ us hl => match us, hl with | [_, _], _ => rfl) s us hl⟩
theorem o7 : OkDef tab d7 := ⟨by kernel_rfl, rfl, rfl, rfl, rfl, by kernel_rfl, fun _ _ _ F s us hl => F.bindsA (fun _ _ _ _ _ _ us hl => match us, hl with | [_, _], _ => rfl) s us hl⟩
theorem o8 : OkDef tab d8 := ⟨by kernel_rfl, rfl, rfl, rfl, rfl, by kernel_rfl, fun _ _ _ F s us hl => F.bindsA (fun _ _ _ _ _ _ us hl => match us, hl with | [_, _], _ => rfl) s us hl⟩
theorem o9 : OkDef tab d9 := ⟨by kernel_rfl, rfl, rfl, rfl, rfl, by kernel_rfl, fun _ _ _ F s us hl => F.bindsA (fun _ _ _ _ _ _ us hl => match us, hl with | [_, _], _ => rfl) s us hl⟩
theorem o10 : OkDef tab d10 := ⟨by kernel_rfl, rfl, rfl, rfl, rfl, by kernel_rfl, fun _ _ _ F s us hl => F.bindsA (fun _ _ _ _ _ _ us hl => match us, hl with | [_, _], _ => rfl) s us hl⟩
theorem o11 : OkDef tab d11 := ⟨by kernel_rfl, rfl, rfl, rfl, rfl, by kernel_rfl, fun _ _ _ F s us hl => F.bindsA (fun _ _ _ _ _ _ us hl => match us, hl with | [_], _ => rfl) s us hl⟩
theorem o12 : OkDef tab d12 := ⟨by kernel_rfl, rfl, rfl, rfl, rfl, by kernel_rfl, fun _ _ _ F s us hl => F.bindsA (fun _ _ _ _ _ _ us hl => match us, hl with | [_], _ => rfl) s us hl⟩
theorem o13 : OkDef tab d13 := ⟨by kernel_rfl, rfl, rfl, rfl, rfl, by kernel_rfl, fun _ _ _ F s us hl => F.bindsA (fun _ _ _ _ _ _ us hl => match us, hl with | [_], _ => rfl) s us hl⟩
theorem o14 : OkDef tab d14 := ⟨by kernel_rfl, rfl, rfl, rfl, rfl, by kernel_rfl, fun _ _ _ F s us hl => F.bindsA (fun _ _ _ _ _ _ us hl => match us, hl with | [_], _ => rfl) s us hl⟩
theorem o15 : OkDef tab d15 := ⟨by kernel_rfl, rfl, rfl, rfl, rfl, by kernel_rfl, fun _ _ _ F s us hl => F.bindsA (fun _ _ _ _ _ _ us hl => match us, hl with | [_, _, _], _ => rfl) s us hl⟩
theorem o16 : OkDef tab d16 := ⟨by kernel_rfl, rfl, rfl, rfl, rfl, by kernel_rfl, fun _ _ _ F s us hl => F.bindsA (fun _ _ _ _ _ _ us hl => match us, hl with | [], _ => rfl) s us hl⟩
theorem o17 : OkDef tab d17 := ⟨by kernel_rfl, rfl, rfl, rfl, rfl, by kernel_rfl, fun _ _ _ F s us hl => F.bindsA (fun _ _ _ _ _ _ us hl => match us, hl with | [_, _], _ => rfl) s us hl⟩
theorem o18 : OkDef tab d18 := ⟨by kernel_rfl, rfl, rfl, rfl, rfl, by kernel_rfl, fun _ _ _ F s us hl => F.bindsA (fun _ _ _ _ _ _ us hl => match us, hl with | [_, _, _], _ => rfl) s us hl⟩
theorem o19 : OkDef tab d19 := ⟨by kernel_rfl, rfl, rfl, rfl, rfl, by kernel_rfl, fun _ _ _ F s us hl => F.bindsA (fun _ _ _ _ _ _ us hl => match us, hl with | [_, _], _ => rfl) s us hl⟩
theorem o20 : OkDef tab d20 := ⟨by kernel_rfl, rfl, rfl, rfl, rfl, by kernel_rfl, fun _ _ _ F s us hl => F.bindsA (fun _ _ _ _ _ _ us hl => match us, hl with | [_], _ => rfl) s us hl⟩
theorem o21 : OkDef tab d21 := ⟨by kernel_rfl, rfl, rfl, rfl, rfl, by kernel_rfl, fun _ _ _ F s us hl => F.bindsA (fun _ _ _ _ _ _ us hl => match us, hl with | [_, _, _, _], _ => rfl) s us hl⟩
theorem o22 : OkDef tab d22 := ⟨by kernel_rfl, rfl, rfl, rfl, rfl, by kernel_rfl, fun _ _ _ F s us hl => F.bindsA (fun _ _ _ _ _ _ us hl => match us, hl with | [_, _, _, _], _ => rfl) s us hl⟩
theorem o23 : OkDef tab d23 := ⟨by kernel_rfl, rfl, rfl, rfl, rfl, by kernel_rfl, fun _ _ _ F s us hl => F.bindsA (fun _ _ _ _ _ _ us hl => match us, hl with | [_], _ => rfl) s us hl⟩
theorem o24 : OkDef tab d24 := ⟨by kernel_rfl, rfl, rfl, rfl, rfl, by kernel_rfl, fun _ _ _ F s us hl => F.bindsA (fun _ _ _ _ _ _ us hl => match us, hl with | [_, _, _], _ => rfl) s us hl⟩
theorem o25 : OkDef tab d25 := ⟨by kernel_rfl, rfl, rfl, rfl, rfl, by kernel_rfl, fun _ _ _ F s us hl => F.bindsA (fun _ _ _ _ _ _ us hl => match us, hl with | [_, _], _ => rfl) s us hl⟩
theorem o26 : OkDef tab d26 := ⟨by kernel_rfl, rfl, rfl, rfl, rfl, by kernel_rfl, fun _ _ _ F s us hl => F.bindsA (fun _ _ _ _ _ _ us hl => match us, hl with | [_, _], _ => rfl) s us hl⟩
theorem o27 : OkDef tab d27 := ⟨by kernel_rfl, rfl, rfl, rfl, rfl, by kernel_rfl, fun _ _ _ F s us hl => F.bindsA (fun _ _ _ _ _ _ us hl => match us, hl with | [_], _ => rfl) s us hl⟩
theorem all : OkAll tab tab.ds := .cons o0 (.cons o1 (.cons o2 (.cons o3 (.cons o4 (.cons o5 (.cons o6 (.cons o7 (.cons o8 (.cons o9 (.cons o10 (.cons o11 (.cons o12 (.cons o13 (.cons o14 (.cons o15 (.cons o16 (.cons o17 (.cons o18 (.cons o19 (.cons o20 (.cons o21 (.cons o22 (.cons o23 (.cons o24 (.cons o25 (.cons o26 (.cons o27 (.nil))))))))))))))))))))))))))))
def nm0 : List Str := ["WritError", "BadText", "NotAllowed", "split_words", "is_name", "is_number", "word_at", "parse_name", "parse_fact", "parse_percent", "parse_if", "parse_part", "parse_condition", "parse_amount", "amount_words", "format_amount"]
def nm1 : List Str := ["_law_is_integer", "_law_row", "_law_kept", "_law_name", "_law_names", "_law_next", "_law_number", "_law_amount", "_law_condition", "_law_words", "_law_rule_amount", "_law_spaced", "_law_same", "LETTERS", "DIGITS", "KEPT"]
def nm2 : List Str := ["MOST_CHARACTERS", "MOST_DIGITS", "PAIRS", "TESTS", "JOINTS", "MOST_WORDS", "MOST_PERCENT"]
def names : List Str := nm0 ++ nm1 ++ nm2
abbrev R : PySem.W.OpenRow := PySem.W.OpenLaw.row PySem.Challenge.rw_duewrits_k01_texts_there_and_back
def ob (s : PySem.W.SharedT) : Tabs.Al := tab.obsG (HandSHeadRun.getT s)
theorem ob_eq (s : PySem.W.SharedT) : ob s = tab.hook.obs s.abs := tab.obsG_eq (HandSHeadRun.getT_eq s)
theorem run (w : World) : HandSHeadRun.RunEq R (PySem.W.view R.prog [43]) tab.hook ob 4000 names w := by
  intro os
  kernel_rfl
theorem mir (ns : List Int) (h : ns.length ≤ 63) : ∃ M, callN tab.G tab.P 40 27 [.rol ns] [] = .ok (.bl true) M :=
  Dv.law_v Dv.FF (Dv.v27 (G := tab.G) (P := tab.P) ⟨rfl, rfl, rfl, rfl, rfl, rfl, rfl, rfl, rfl, rfl, rfl, rfl⟩ ⟨rfl, rfl, rfl, rfl, rfl, rfl, rfl, rfl, rfl⟩ ⟨rfl, rfl, rfl, rfl, rfl, rfl, rfl, rfl, rfl, rfl, rfl, rfl, rfl, rfl, rfl, rfl, rfl, rfl⟩ ns 39 (by decide))

theorem xo : tab.xiOk = true := by rfl
end LW
open PySem PySem.W PySem.Calls PyProof.Rows
theorem PySem.Challenge.cw_duewrits_k01_texts_there_and_back_holds : PySem.Challenge.rw_duewrits_k01_texts_there_and_back.Holds := by
  w_on; o_law
  refine HandSHeadRun.head_any (r := OpenLaw.row PySem.Challenge.rw_duewrits_k01_texts_there_and_back) (q := view (OpenLaw.row PySem.Challenge.rw_duewrits_k01_texts_there_and_back).prog [43]) (H := LW.tab.hook) (ob := LW.ob) (M := 4000) (loose := LW.names) (d := HandSHeadRun.topDef (OpenLaw.row PySem.Challenge.rw_duewrits_k01_texts_there_and_back).prog 43) (kwd := []) LW.ob_eq
    (by kernel_rfl) (fun s => by kernel_rfl) LW.run (by kernel_rfl) (by kernel_rfl) (by kernel_rfl) (by rfl) (by first | assumption | decide +kernel) (by decide +kernel) ⟨rfl, rfl, rfl, rfl, rfl, by decide +kernel⟩ ?hw ?hc
  case hw => w_witness2
  case hc =>
    refine L2.walk_ofE (l := PySem.Challenge.rw_duewrits_k01_texts_there_and_back) (n := 63) (k := 2 * 40 + 1) (x := "_law_script") (CX := Dv.CXn) rfl (by decide) (by kernel_rfl) ⟨rfl, by decide, by decide⟩ ?F (fun _ _ _ _ z => z)
    intro w mg fa h Y G hmg0
    obtain ⟨K, KX, c⟩ := Y
    have hmg : mg ("law" : PySem.Str) = some (.ref fa) := by
      have e : (HandSHeadRun.topDef (OpenLaw.row PySem.Challenge.rw_duewrits_k01_texts_there_and_back).prog 43).name = ("law" : PySem.Str) := by kernel_rfl
      rw [← e]
      exact hmg0
    obtain ⟨fd, hb, hF⟩ := Dv.Tabs.law (P₀ := (PySem.Challenge.rw_duewrits_k01_texts_there_and_back).prog) (w := w) (f := 27) (n := 40) (x := LW.d27) KX G hmg c LW.all rfl rfl rfl LW.xo
    exact ⟨K, fd, fun vs H Q _ => Dv.spC (LW.tab.CA K) K (Dv.callN LW.tab.G LW.tab.P 40) 27 vs H Q fun _ _ _ => False, KX, hb, fun H a ns hl hO hS => Dv.script_ok (LW.mir ns hl).choose_spec hO hS, hF⟩
