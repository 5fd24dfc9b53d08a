import PyProof.Rows.All
import Wide.All
import OpenK.AllK
import Wide.FinOn
import HandS.ForMost
import HandS.ForExc
import HandS.Wide
import HandS.Conv
import HandS.Deep
import HandS.TupAny
import HandS.SortInts
import HandS.SortRule
import HandS.RaiseMore
import HandS.IsInst
import HandS.Small
import HandS.HeadWalk
import HandS.ExcIs
import HandS.ExcField
import HandS.TryMany
import HandS.Flow
import HandS.TryOnly
import HandS.Defaults
import HandS.ExcInit
import KE.KExcInit
import HandS.Head0
import HandS.Head1
import HandS.Head2
import HandS.HeadEnd
import HandS.HeadHook1
import HandS.HeadHook2
import PyProof.Rows.Walk
import KE.KStateDown
import HandS.Base
import HandS.Call
import HandS.Ends
import HandS.More
import HandS.Words
import HandS.WordsExc
import PySem.Challenge.RW_duewrits_k20_whole_shares
section
set_option Elab.async false
set_option linter.all false
set_option maxRecDepth 100000
/-! DvA: a small evaluator for the part of Python that the program and its laws are written in. Values are trees (tuples by value), what may change stands in a store by number. -/
noncomputable section
namespace Dv
open PySem L2

/-! ### values, objects, the store -/
inductive D where
  | non | bl (b : Bool) | int (i : Int) | str (s : Str) | tup (xs : List D) | loc (n : Nat) | rol (xs : List Int) | ktp (xs : List Str)

inductive Ob where
  | lst (xs : List D)
  | dct (kvs : List (Key × D))
  | dtt (kvs : List (List Key × D))
  | ins (c : Nat) (fs : List (Str × D))

abbrev Store := List Ob
abbrev Env := List (Option D)

inductive Out (α : Type) where
  | ok (a : α) (M : Store)
  | exc (c : Nat) (fs : List (Str × D)) (M : Store)
  | bad
namespace Out
def bind {α β : Type} (o : Out α) (f : α → Store → Out β) : Out β := match o with
  | .ok a M => f a M
  | .exc c fs M => .exc c fs M
  | .bad => .bad
@[simp] theorem bind_ok {α β : Type} (a : α) (M : Store) (f : α → Store → Out β) : (Out.ok a M).bind f = f a M := rfl
@[simp] theorem bind_exc {α β : Type} (c : Nat) (fs : List (Str × D)) (M : Store) (f : α → Store → Out β) : (Out.exc c fs M).bind f = .exc c fs M := rfl
@[simp] theorem bind_bad {α β : Type} (f : α → Store → Out β) : (Out.bad : Out α).bind f = .bad := rfl
end Out

/-! ### the text -/
inductive Op where
  | add | sub | mul | fdiv | mod | pow
inductive Co where
  | lt | le | gt | ge | eq | ne | inn | nin | iss | isn
/-- built-in functions and classes that are called by name -/
inductive Bi where
  | len | int | abs | min | max | sum | str | list | tuple | sorted
/-- built-in methods -/
inductive Bm where
  | append | extend | pop | index | split | join | startswith | get
/-- built-in classes that isinstance is asked of -/
inductive Ty where
  | int | bool | str | list | tuple

inductive E where
  | nil | cons (h t : E)
  | var (i : Nat)
  | non | bl (b : Bool) | int (i : Int) | str (s : Str)
  | glb (k : Nat)
  | bin (o : Op) (a b : E)
  | neg (a : E)
  | cmp (o : Co) (a b : E)
  | chn (o p : Co) (a b c : E)
  | ch3 (o p q : Co) (a b c d : E)
  | and (a b : E) | or (a b : E) | not (a : E)
  | ife (c a b : E)
  | tup (es : E) | lst (es : E)
  | dnl (tk : Bool)
  | dsp (es : E)
  | idx (a i : E)
  | slc (a lo hi : E)
  | rev (a : E)
  | fld (a : E) (f : Str)
  | cal (f : Nat) (es : E)
  | mak (c : Nat) (es : E)
  | mth (o : E) (m : Nat) (es : E)
  | bi (b : Bi) (es : E)
  | bm (m : Bm) (o es : E)
  | isi (a : E) (t : Ty)
  | isx (c : Nat)
  | xfd (f : Str)
  | rng (es : E)
  | cmp1 (elt : E) (tg : List Nat) (sole : Bool) (own : List Nat) (it cond : E)

inductive T where
  | nm (i : Nat) | tp (is : List Nat) | sub (o i : E) | att (o : E) (f : Str)

inductive S where
  | nil | cons (h t : S)
  | asg (t : T) (e : E)
  | ex (e : E)
  | ret (e : E) | retN
  | pas
  | ite (c : E) (a b : S)
  | for_ (tg : List Nat) (sole : Bool) (it : E) (body : S)
  | whl (c : E) (body : S)
  | rai (c : Nat) (es : E)
  | tri (body : S) (c : Nat) (nm : Option Nat) (suite : S)

/-! ### operations on values -/
def D.key? : D → Option Key
  | .int i => some (.inl i)
  | .str s => some (.inr s)
  | _ => none
def keyD : Key → D
  | .inl i => .int i
  | .inr s => .str s
def keysOf : List D → Option (List Key)
  | [] => some []
  | d :: r => match d.key?, keysOf r with
    | some k, some ks => some (k :: ks)
    | _, _ => none
/-- scalars -/
def D.sc : D → Bool
  | .non => true | .bl _ => true | .int _ => true | .str _ => true | _ => false
/-- x == y of scalars, as Python has it -/
def eqS : D → D → Bool
  | .non, .non => true
  | .bl a, .bl b => a == b
  | .bl a, .int b => (if a then 1 else 0) == b
  | .int a, .bl b => a == (if b then 1 else 0)
  | .int a, .int b => a == b
  | .str a, .str b => a == b
  | _, _ => false
mutual
/-- the data of a value, by what the numbers of the store stand for -/
def pyO (f : Nat → Option PyData) : D → Option PyData
  | .non => some .none
  | .bl b => some (.bool b)
  | .int i => some (.int i)
  | .str s => some (.str s)
  | .rol xs => some (.list (xs.map PyData.int))
  | .ktp _ => none
  | .tup xs => (pysO f xs).map PyData.tuple
  | .loc n => f n
def pysO (f : Nat → Option PyData) : List D → Option (List PyData)
  | [] => some []
  | d :: r => match pyO f d, pysO f r with
    | some x, some xs => some (x :: xs)
    | _, _ => none
end
/-- lists of the store, to a depth of k -/
def loD (M : Store) : Nat → Nat → Option PyData
  | 0, _ => none
  | k + 1, n => match M[n]? with
    | some (.lst xs) => (pysO (loD M k) xs).map PyData.list
    | _ => none
abbrev py (M : Store) (d : D) : Option PyData := pyO (loD M 4) d
/-- x == y -/
def eqE (M : Store) (x y : D) : Option Bool :=
  if (x.sc && y.sc) = true then some (eqS x y)
  else match py M x, py M y with
    | some d, some e => if (SeqAt.shaped d && SeqAt.shaped e) = true then some (PyData.eqv d e) else none
    | _, _ => none

/-! ### what is read of the store -/
def lstAt (M : Store) (n : Nat) : Option (List D) := match M[n]? with
  | some (.lst xs) => some xs
  | _ => none
/-- the items of a list or a tuple -/
def seqOf (M : Store) : D → Option (List D)
  | .loc n => lstAt M n
  | .tup xs => some xs
  | .rol xs => some (xs.map D.int)
  | _ => none
def intsOf : List D → Option (List Int)
  | [] => some []
  | .int i :: r => (intsOf r).map (i :: ·)
  | _ :: _ => none
def strsOf : List D → Option (List Str)
  | [] => some []
  | .str s :: r => (strsOf r).map (s :: ·)
  | _ :: _ => none
def putD (f : Str) (v : D) : List (Str × D) → List (Str × D)
  | [] => [(f, v)]
  | (g, u) :: r => if g = f then (f, v) :: r else (g, u) :: putD f v r
def valK {κ : Type} [DecidableEq κ] (kvs : List (κ × D)) (k : κ) : Option D := (kvs.find? fun kv => decide (kv.1 = k)).map (·.2)
def putKD {κ : Type} [DecidableEq κ] (kvs : List (κ × D)) (k : κ) (v : D) : List (κ × D) :=
  if (kvs.any fun kv => decide (kv.1 = k)) = true then kvs.map (fun kv => if kv.1 = k then (kv.1, v) else kv) else kvs ++ [(k, v)]
/-- a new object -/
def mk (M : Store) (o : Ob) : Out D := .ok (.loc M.length) (M ++ [o])
def cutD (xs : List D) (lo hi : Option Int) : List D := (xs.drop (HT.sIx xs.length 0 lo)).take (HT.sIx xs.length xs.length hi - HT.sIx xs.length 0 lo)
def truD (M : Store) : D → Option Bool
  | .non => some false
  | .bl b => some b
  | .int i => some (i != 0)
  | .str s => if s.length ≤ sizeLine then some (s.length != 0) else none
  | .tup xs => some (!xs.isEmpty)
  | .rol xs => some (!xs.isEmpty)
  | .ktp _ => none
  | .loc n => match M[n]? with
    | some (.lst xs) => some (!xs.isEmpty)
    | some (.dct kvs) => some (!kvs.isEmpty)
    | _ => none
def ofO {α : Type} (o : Option α) (M : Store) : Out α := match o with
  | some a => .ok a M
  | none => .bad
/-- a list or a tuple of so many items may be made -/
def lstG (M : Store) (xs : List D) : Out D := if xs.length ≤ sizeLine then mk M (.lst xs) else .bad

/-! ### operators -/
def repS (a : Str) (n : Nat) : Str := ⟨(List.replicate n a.cps.toList).flatten.toArray⟩
def binE (o : Op) (M : Store) (x y : D) : Out D := match o, x, y with
  | .add, .int i, .int j => .ok (.int (i + j)) M
  | .add, .str a, .str b => if a.length + b.length ≤ sizeLine then .ok (.str (a ++ b)) M else .bad
  | .add, .tup a, .tup b => if a.length + b.length ≤ sizeLine then .ok (.tup (a ++ b)) M else .bad
  | .add, .loc a, .loc b => match lstAt M a, lstAt M b with
    | some xs, some ys => lstG M (xs ++ ys)
    | _, _ => .bad
  | .sub, .int i, .int j => .ok (.int (i - j)) M
  | .mul, .int i, .int j => if (-18446744073709551616 < i ∧ i < 18446744073709551616) ∨ (-18446744073709551616 < j ∧ j < 18446744073709551616) ∨ i.natAbs.log2 + j.natAbs.log2 < 1000000 then .ok (.int (i * j)) M else .bad
  | .mul, .str a, .int n => if 0 ≤ n ∧ n ≤ 1000 ∧ a.length ≤ 1000 then .ok (.str (repS a n.toNat)) M else .bad
  | .fdiv, .int i, .int j => if 0 < j ∧ j < 18446744073709551616 then .ok (.int (i / j)) M else .bad
  | .mod, .int i, .int j => if 0 < j then .ok (.int (i % j)) M else .bad
  | .pow, .int i, .int j => if 0 ≤ j ∧ j ≤ 1000000 ∧ -18446744073709551616 < i ∧ i < 18446744073709551616 then .ok (.int (i ^ j.toNat)) M else .bad
  | _, _, _ => .bad
def inE (M : Store) (x y : D) : Option Bool := match y with
  | .str z => match x with
    | .str a => match a.cps.toList with
      | [c] => some (decide (c ∈ z.cps.toList))
      | _ => none
    | _ => none
  | .loc n => match M[n]? with
    | some (.lst ys) => if (x.sc && ys.all D.sc) = true then some (ys.any fun y => eqS y x)
      else match py M x, py M (.loc n) with
        | some d, some (.list ds) => if (SeqAt.shaped d && SeqAt.shaped (.list ds)) = true then some (ds.any fun z => PyData.eqv z d) else none
        | _, _ => none
    | some (.dct kvs) => match x.key? with
      | some k => some (valK kvs k).isSome
      | none => none
    | _ => none
  | .tup ys => if (x.sc && ys.all D.sc) = true then some (ys.any fun y => eqS y x) else none
  | .ktp ys => if x.sc = true then some (ys.any fun y => eqS (.str y) x) else none
  | _ => none
def cmpE (o : Co) (M : Store) (x y : D) : Option Bool := match o with
  | .lt => match x, y with
    | .int i, .int j => some (decide (i < j))
    | _, _ => none
  | .le => match x, y with
    | .int i, .int j => some (decide (i ≤ j))
    | _, _ => none
  | .gt => match x, y with
    | .int i, .int j => some (decide (j < i))
    | _, _ => none
  | .ge => match x, y with
    | .int i, .int j => some (decide (j ≤ i))
    | _, _ => none
  | .eq => eqE M x y
  | .ne => (eqE M x y).map (!·)
  | .inn => inE M x y
  | .nin => (inE M x y).map (!·)
  | .iss => match y with
    | .non => some (match x with | .non => true | _ => false)
    | _ => none
  | .isn => match y with
    | .non => some (match x with | .non => false | _ => true)
    | _ => none
def idxE (M : Store) (x i : D) : Option D := match x with
  | .str z => match i with
    | .int i => if z.length ≤ sizeLine then (atI z.cps.toList i).map fun c => .str ⟨#[c]⟩ else none
    | _ => none
  | .tup xs => match i with
    | .int i => atI xs i
    | _ => none
  | .rol xs => match i with
    | .int i => (atI xs i).map D.int
    | _ => none
  | .loc n => match M[n]? with
    | some (.lst xs) => match i with
      | .int i => atI xs i
      | _ => none
    | some (.dct kvs) => match i.key? with
      | some k => valK kvs k
      | none => none
    | some (.dtt kvs) => match i with
      | .tup ks => match keysOf ks with
        | some k => valK kvs k
        | none => none
      | _ => none
    | _ => none
  | _ => none
def slcE (M : Store) (x : D) (lo hi : Option Int) : Out D := match x with
  | .str z => if z.length ≤ sizeLine then .ok (.str (cutS z lo hi)) M else .bad
  | .tup xs => .ok (.tup (cutD xs lo hi)) M
  | .loc n => match lstAt M n with
    | some xs => mk M (.lst (cutD xs lo hi))
    | none => .bad
  | _ => .bad
def isiE (M : Store) (x : D) (t : Ty) : Option Bool := match t, x with
  | .int, .int _ => some true
  | .int, .bl _ => some true
  | .bool, .bl _ => some true
  | .str, .str _ => some true
  | .tuple, .tup _ => some true
  | .list, .loc n => (lstAt M n).map fun _ => true
  | _, .loc n => (lstAt M n).map fun _ => false
  | _, .rol _ => none
  | _, .ktp _ => none
  | _, _ => some false

/-! ### sorted -/
def insI (i : Int) : List Int → List Int
  | [] => [i]
  | j :: r => if i ≤ j then i :: j :: r else j :: insI i r
def sortI : List Int → List Int
  | [] => []
  | i :: r => insI i (sortI r)
/-- pairs of ints, by the first, then by the second -/
def leP (a b : Int × Int) : Bool := decide (a.1 < b.1) || (decide (a.1 = b.1) && decide (a.2 ≤ b.2))
def insP (a : Int × Int) : List (Int × Int) → List (Int × Int)
  | [] => [a]
  | b :: r => if leP a b = true then a :: b :: r else b :: insP a r
def sortP : List (Int × Int) → List (Int × Int)
  | [] => []
  | a :: r => insP a (sortP r)
def pairsOf : List D → Option (List (Int × Int))
  | [] => some []
  | .tup [.int i, .int j] :: r => (pairsOf r).map ((i, j) :: ·)
  | _ :: _ => none
def pairD (p : Int × Int) : D := .tup [.int p.1, .int p.2]
def maxI : List Int → Option Int
  | [] => none
  | i :: r => match maxI r with
    | none => some i
    | some m => some (if m > i then m else i)
def minI : List Int → Option Int
  | [] => none
  | i :: r => match minI r with
    | none => some i
    | some m => some (if m < i then m else i)

/-! ### built-in functions -/
def biE (b : Bi) (M : Store) (vs : List D) : Out D := match b, vs with
  | .len, [.str s] => if s.length ≤ sizeLine then .ok (.int s.length) M else .bad
  | .len, [x] => match seqOf M x with
    | some xs => .ok (.int xs.length) M
    | none => .bad
  | .int, [.int i] => .ok (.int i) M
  | .int, [.bl b] => .ok (.int (if b then 1 else 0)) M
  | .int, [.str s] => match PySem.intText? s with
    | some n => if s.length ≤ 640 then .ok (.int n) M else .bad
    | none => .bad
  | .abs, [.int i] => .ok (.int (if i < 0 then -i else i)) M
  | .min, [.int i, .int j] => .ok (.int (if j < i then j else i)) M
  | .max, [.int i, .int j] => .ok (.int (if j > i then j else i)) M
  | .max, [.loc n] => match (lstAt M n).bind intsOf with
    | some is => ofO ((maxI is).map D.int) M
    | none => .bad
  | .min, [.loc n] => match (lstAt M n).bind intsOf with
    | some is => ofO ((minI is).map D.int) M
    | none => .bad
  | .sum, [.loc n] => match (lstAt M n).bind intsOf with
    | some is => .ok (.int is.sum) M
    | none => .bad
  | .str, [.int i] => if -18446744073709551616 < i ∧ i < 18446744073709551616 then .ok (.str (toString i)) M else .bad
  | .list, [.loc n] => match M[n]? with
    | some (.lst xs) => mk M (.lst xs)
    | some (.dct kvs) => mk M (.lst (kvs.map fun kv => keyD kv.1))
    | _ => .bad
  | .list, [.tup xs] => mk M (.lst xs)
  | .tuple, [.loc n] => match lstAt M n with
    | some xs => .ok (.tup xs) M
    | none => .bad
  | .sorted, [.loc n] => match lstAt M n with
    | some xs => match intsOf xs with
      | some is => mk M (.lst ((sortI is).map D.int))
      | none => match pairsOf xs with
        | some ps => mk M (.lst ((sortP ps).map pairD))
        | none => .bad
    | none => .bad
  | _, _ => .bad
/-- the first place of x in ys -/
def findD (p : D → Bool) : List D → Option Nat
  | [] => none
  | y :: r => if p y = true then some 0 else (findD p r).map (· + 1)
def bmE (m : Bm) (M : Store) (o : D) (vs : List D) : Out D := match m, o, vs with
  | .append, .loc n, [x] => match M[n]? with
    | some (.lst xs) => if xs.length < sizeLine then .ok .non (M.set n (.lst (xs ++ [x]))) else .bad
    | _ => .bad
  | .extend, .loc n, [.loc k] => match M[n]?, M[k]? with
    | some (.lst xs), some (.lst ys) => if xs.length + ys.length ≤ sizeLine then .ok .non (M.set n (.lst (xs ++ ys))) else .bad
    | _, _ => .bad
  | .pop, .loc n, [] => match M[n]? with
    | some (.lst xs) => match xs[xs.length - 1]? with
      | some x => .ok x (M.set n (.lst xs.dropLast))
      | none => .bad
    | _ => .bad
  | .pop, .loc n, [.int i] => match M[n]? with
    | some (.lst xs) => match ixN xs.length i with
      | some k => match xs[k]? with
        | some x => .ok x (M.set n (.lst (xs.eraseIdx k)))
        | none => .bad
      | none => .bad
    | _ => .bad
  | .index, .loc n, [x] => match M[n]? with
    | some (.lst ys) => if (x.sc && ys.all D.sc) = true then
        match findD (fun y => eqS y x) ys with
        | some j => .ok (.int j) M
        | none => .bad
      else .bad
    | _ => .bad
  | .split, .str a, [.str b] => if b.length ≠ 0 ∧ a.length + 2 ≤ sizeLine then mk M (.lst ((Txt.split a b).map D.str)) else .bad
  | .join, .str a, [.loc n] => match (lstAt M n).bind strsOf with
    | some ys => if (ys.map (·.length)).sum + ys.length * a.length ≤ 16777216 then .ok (.str (Txt.join a ys)) M else .bad
    | none => .bad
  | .startswith, .str a, [.str b] => .ok (.bl (Txt.startswith a b)) M
  | .get, .loc n, [x] => match M[n]? with
    | some (.dct kvs) => match x.key? with
      | some k => .ok ((valK kvs k).getD .non) M
      | none => .bad
    | _ => .bad
  | _, _, _ => .bad
/-- what a method is asked of -/
def bmTy (m : Bm) (M : Store) (o : D) : Bool := match m with
  | .append => match o with | .loc n => (lstAt M n).isSome | _ => false
  | .extend => match o with | .loc n => (lstAt M n).isSome | _ => false
  | .pop => match o with | .loc n => (lstAt M n).isSome | _ => false
  | .index => match o with | .loc n => (lstAt M n).isSome | _ => false
  | .split => match o with | .str _ => true | _ => false
  | .join => match o with | .str _ => true | _ => false
  | .startswith => match o with | .str _ => true | _ => false
  | .get => match o with | .loc n => (match M[n]? with | some (.dct _) => true | _ => false) | _ => false
/-- o[i] = v -/
def setE (M : Store) (o i v : D) : Out Unit := match o with
  | .loc n => match M[n]? with
    | some (.lst xs) => match i with
      | .int k => match ixN xs.length k with
        | some j => .ok () (M.set n (.lst (xs.set j v)))
        | none => .bad
      | _ => .bad
    | some (.dct kvs) => match i.key? with
      | some k => if kvs.length < sizeLine then .ok () (M.set n (.dct (putKD kvs k v))) else .bad
      | none => .bad
    | some (.dtt kvs) => match i with
      | .tup ks => match keysOf ks with
        | some k => if kvs.length < sizeLine then .ok () (M.set n (.dtt (putKD kvs k v))) else .bad
        | none => .bad
      | _ => .bad
    | _ => .bad
  | _ => .bad

/-! ### the reading of a text -/
/-- what is known of the module: constants, methods, classes' makers, the order of exceptions' classes; the exception that is handled -/
structure Gl where
  con : Nat → Option D
  mid : Nat → Nat → Option Nat
  ini : Nat → Option Nat
  sub : Nat → Nat → Bool
  exi : Nat → Option (List Str)
  mn : Nat → Str
  fok : Nat → Str → Bool
  isc : Nat → Bool
  xok : Nat → Str → Bool
  xraw : Nat → Bool
abbrev Cl := Nat → List D → Store → Out D
/-- what a loop walks -/
inductive Src where
  | its (xs : List D)          -- written once: a range, a tuple, a text, the script
  | lst (n : Nat) (xs : List D)  -- a list of the store, which must stand
open Classical in
/-- the source stands -/
def Src.stands (s : Src) (M : Store) : Bool := match s with
  | .its _ => true
  | .lst n xs => decide (M[n]? = some (.lst xs))
def Src.items : Src → List D
  | .its xs => xs
  | .lst _ xs => xs
def srcOf (M : Store) : D → Out Src
  | .loc n => match lstAt M n with
    | some xs => .ok (.lst n xs) M
    | none => .bad
  | .tup xs => .ok (.its xs) M
  | .rol xs => .ok (.its (xs.map D.int)) M
  | .str z => .ok (.its (z.cps.toList.map fun c => .str ⟨#[c]⟩)) M
  | _ => .bad
def rngOf (M : Store) : List D → Out Src
  | [.int n] => if -4611686018427387904 ≤ n ∧ n < 4611686018427387904 then .ok (.its ((List.range n.toNat).map fun i => .int (i : Nat))) M else .bad
  | [.int a, .int b] => if -4611686018427387904 ≤ a ∧ a < 4611686018427387904 ∧ -4611686018427387904 ≤ b ∧ b < 4611686018427387904 then .ok (.its ((List.range (b - a).toNat).map fun i => .int (a + (i : Nat)))) M else .bad
  | _ => .bad
/-- several names at once -/
def bindN : List Nat → List D → Env → Option Env
  | [], [], e => some e
  | i :: is, d :: ds, e => bindN is ds (e.set i (some d))
  | _, _, _ => none
/-- the target of a for, of a comprehension -/
def bindT (tg : List Nat) (sole : Bool) (d : D) (e : Env) : Option Env := match sole with
  | true => match tg with
    | [i] => some (e.set i (some d))
    | _ => none
  | false => match d with
    | .tup ds => bindN tg ds e
    | _ => none
def wipeD (e : Env) : List Nat → Env
  | [] => e
  | v :: vs => (wipeD e vs).set v none
/-- no exception leaves -/
def Out.nox {α : Type} (o : Out α) : Out α := match o with
  | .ok a M => .ok a M
  | _ => .bad
@[simp] theorem Out.nox_ok {α : Type} (a : α) (M : Store) : (Out.ok a M).nox = .ok a M := rfl
/-- a comprehension's turns: test, then element -/
def compL (s : Src) (tg : List Nat) (sole : Bool) (e : Env) (tt : Env → Store → Out Bool) (te : Env → Store → Out D) : List D → List D → Store → Out (List D)
  | [], acc, M => if s.stands M = true then .ok acc M else .bad
  | x :: r, acc, M => if s.stands M = true then
      match bindT tg sole x e with
      | some e' => (tt e' M).nox.bind fun b M1 => if b = true then (te e' M1).nox.bind fun d M2 => if acc.length < sizeLine then compL s tg sole e tt te r (acc ++ [d]) M2 else .bad else compL s tg sole e tt te r acc M1
      | none => .bad
    else .bad
def dspPut : List D → List D → List (Key × D) → Option (List (Key × D))
  | [], [], kvs => some kvs
  | k :: ks, v :: vs, kvs => match k.key? with
    | some k => dspPut ks vs (putKD kvs k v)
    | none => none
  | _, _, _ => none
/-- what an expression is worth: as a value, as a test, as a row of arguments, as a part of a slice, as what is walked, as a comprehension's test -/
structure Sem where
  e : Env → Store → Out D
  t : Env → Store → Out Bool
  a : Env → Store → Out (List D)
  p : Env → Store → Out (Option Int)
  i : Env → Store → Out Src
  c : Env → Store → Out Bool
def asInt (M : Store) (x : D) : Out (Option Int) := match x with
  | .int i => .ok (some i) M
  | _ => .bad
def semE (f : Env → Store → Out D) : Sem where
  e := f
  t := fun e M => (f e M).bind fun x M1 => ofO (truD M1 x) M1
  a := fun _ _ => .bad
  p := fun e M => (f e M).bind fun x M1 => asInt M1 x
  i := fun e M => (f e M).bind fun x M1 => srcOf M1 x
  c := fun e M => (f e M).bind fun x M1 => ofO (truD M1 x) M1
/-- with a test of its own -/
def semT (f : Env → Store → Out D) (t : Env → Store → Out Bool) : Sem := { semE f with t := t, c := t }
def pairUp : List D → List D × List D
  | k :: v :: r => (k :: (pairUp r).1, v :: (pairUp r).2)
  | _ => ([], [])
section
variable (G : Gl) (cl : Cl) (cu : Option (Nat × List (Str × D)))
def varE (i : Nat) (e : Env) (M : Store) : Out D := match e[i]? with
  | some (some d) => .ok d M
  | _ => .bad
def negE (M : Store) (x : D) : Out D := match x with
  | .int i => .ok (.int (-i)) M
  | _ => .bad
def andE (x : D) (k : Store → Out D) (M : Store) : Out D := match x with
  | .bl true => k M
  | .bl false => .ok (.bl false) M
  | _ => .bad
def orE (x : D) (k : Store → Out D) (M : Store) : Out D := match x with
  | .bl false => k M
  | .bl true => .ok (.bl true) M
  | _ => .bad
def revE (M : Store) (x : D) : Out D := match x with
  | .loc n => match lstAt M n with
    | some xs => mk M (.lst xs.reverse)
    | none => .bad
  | _ => .bad
def fldE (M : Store) (x : D) (f : Str) : Out D := match x with
  | .loc n => match M[n]? with
    | some (.ins c fs) => if G.fok c f = true then ofO (fs.lookup f) M else .bad
    | _ => .bad
  | _ => .bad
def makE (c : Nat) (vs : List D) (M : Store) : Out D := match G.ini c with
  | some g => (cl g (.loc M.length :: vs) (M ++ [.ins c []])).bind fun v M2 => match v with
    | .non => .ok (.loc M.length) M2
    | _ => .bad
  | none => .bad
/-- the method m of x -/
def mthE (M : Store) (x : D) (m : Nat) : Option Nat := match x with
  | .loc n => match M[n]? with
    | some (.ins c fs) => if (fs.lookup (G.mn m)).isNone = true then G.mid c m else none
    | _ => none
  | _ => none
def dspE (vs : List D) (M : Store) : Out D := match dspPut (pairUp vs).1 (pairUp vs).2 [] with
  | some kvs => if (pairUp vs).1.length ≤ 15 then mk M (.dct kvs) else .bad
  | none => .bad
def isxE (c : Nat) (M : Store) : Out D := match cu with
  | some (k, []) => if G.isc c = true then .ok (.bl (G.sub k c)) M else .bad
  | _ => .bad
def xfdE (f : Str) (M : Store) : Out D := match cu with
  | some (k, fs) => if G.xok k f = true then ofO (fs.lookup f) M else .bad
  | none => .bad
def ev : E → Sem
  | .nil => { semE fun _ _ => .bad with a := fun _ M => .ok [] M, p := fun _ M => .ok none M, c := fun _ M => .ok true M }
  | .cons x y => { semE fun _ _ => .bad with a := fun e M => ((ev x).e e M).bind fun d M1 => ((ev y).a e M1).bind fun ds M2 => .ok (d :: ds) M2 }
  | .rng x => { semE fun _ _ => .bad with i := fun e M => ((ev x).a e M).bind fun vs M1 => rngOf M1 vs }
  | .var i => semE (varE i)
  | .non => semE fun _ M => .ok .non M
  | .bl b => semE fun _ M => .ok (.bl b) M
  | .int i => semE fun _ M => .ok (.int i) M
  | .str s => semE fun _ M => .ok (.str s) M
  | .glb k => semE fun _ M => ofO (G.con k) M
  | .bin o a b => semE fun e M => ((ev a).e e M).bind fun x M1 => ((ev b).e e M1).bind fun y M2 => binE o M2 x y
  | .neg a => semE fun e M => ((ev a).e e M).bind fun x M1 => negE M1 x
  | .cmp o a b => semE fun e M => ((ev a).e e M).bind fun x M1 => ((ev b).e e M1).bind fun y M2 => (ofO (cmpE o M2 x y) M2).bind fun c M3 => .ok (.bl c) M3
  | .chn o p a b c => semE fun e M => ((ev a).e e M).bind fun x M1 => ((ev b).e e M1).bind fun y M2 => (ofO (cmpE o M2 x y) M2).bind fun k M3 =>
      if k = true then ((ev c).e e M3).bind fun z M4 => (ofO (cmpE p M4 y z) M4).bind fun c M5 => .ok (.bl c) M5 else .ok (.bl false) M3
  | .ch3 o p q a b c d => semE fun e M => ((ev a).e e M).bind fun x M1 => ((ev b).e e M1).bind fun y M2 => (ofO (cmpE o M2 x y) M2).bind fun k M3 =>
      if k = true then ((ev c).e e M3).bind fun z M4 => (ofO (cmpE p M4 y z) M4).bind fun k M5 =>
        if k = true then ((ev d).e e M5).bind fun w M6 => (ofO (cmpE q M6 z w) M6).bind fun c M7 => .ok (.bl c) M7 else .ok (.bl false) M5
      else .ok (.bl false) M3
  | .and a b => semT (fun e M => ((ev a).e e M).bind fun x M1 => andE x ((ev b).e e) M1) fun e M => ((ev a).t e M).bind fun x M1 => if x = true then (ev b).t e M1 else .ok false M1
  | .or a b => semT (fun e M => ((ev a).e e M).bind fun x M1 => orE x ((ev b).e e) M1) fun e M => ((ev a).t e M).bind fun x M1 => if x = true then .ok true M1 else (ev b).t e M1
  | .not a => semT (fun e M => ((ev a).e e M).bind fun x M1 => (ofO (truD M1 x) M1).bind fun b M2 => .ok (.bl (!b)) M2) fun e M => ((ev a).t e M).bind fun x M1 => .ok (!x) M1
  | .ife c a b => semT (fun e M => ((ev c).t e M).bind fun t M1 => if t = true then (ev a).e e M1 else (ev b).e e M1) fun e M => ((ev c).t e M).bind fun t M1 => if t = true then (ev a).t e M1 else (ev b).t e M1
  | .tup es => semE fun e M => ((ev es).a e M).bind fun vs M1 => if vs.length ≤ sizeLine then .ok (.tup vs) M1 else .bad
  | .lst es => semE fun e M => ((ev es).a e M).bind fun vs M1 => lstG M1 vs
  | .dnl tk => semE fun _ M => if tk = true then mk M (.dtt []) else mk M (.dct [])
  | .dsp es => semE fun e M => ((ev es).a e M).bind fun vs M1 => dspE vs M1
  | .idx a i => semE fun e M => ((ev a).e e M).bind fun x M1 => ((ev i).e e M1).bind fun y M2 => ofO (idxE M2 x y) M2
  | .slc a lo hi => semE fun e M => ((ev a).e e M).bind fun x M1 => ((ev lo).p e M1).bind fun l M2 => ((ev hi).p e M2).bind fun h M3 => slcE M3 x l h
  | .rev a => semE fun e M => ((ev a).e e M).bind fun x M1 => revE M1 x
  | .fld a f => semE fun e M => ((ev a).e e M).bind fun x M1 => fldE G M1 x f
  | .cal f es => semE fun e M => ((ev es).a e M).bind fun vs M1 => cl f vs M1
  | .mak c es => semE fun e M => ((ev es).a e M).bind fun vs M1 => makE G cl c vs M1
  | .mth o m es => semE fun e M => ((ev o).e e M).bind fun x M1 => match mthE G M1 x m with
    | some g => ((ev es).a e M1).bind fun vs M2 => cl g (x :: vs) M2
    | none => .bad
  | .bi b es => semE fun e M => ((ev es).a e M).bind fun vs M1 => biE b M1 vs
  | .bm m o es => semE fun e M => ((ev o).e e M).bind fun x M1 => if bmTy m M1 x = true then ((ev es).a e M1).bind fun vs M2 => bmE m M2 x vs else .bad
  | .isi a t => semE fun e M => ((ev a).e e M).bind fun x M1 => (ofO (isiE M1 x t) M1).bind fun c M2 => .ok (.bl c) M2
  | .isx c => semE fun _ M => isxE G cu c M
  | .xfd f => semE fun _ M => xfdE G cu f M
  | .cmp1 elt tg sole own it cond => semE fun e M => ((ev it).i e M).bind fun s M1 =>
      (compL s tg sole (wipeD e own) (fun e' M' => (ev cond).c e' M') (fun e' M' => (ev elt).e e' M') s.items [] M1).bind fun xs M2 => lstG M2 xs
abbrev evE (x : E) := (ev G cl cu x).e
abbrev evT (x : E) := (ev G cl cu x).t
abbrev evA (x : E) := (ev G cl cu x).a
abbrev evP (x : E) := (ev G cl cu x).p
abbrev evI (x : E) := (ev G cl cu x).i
abbrev evC (x : E) := (ev G cl cu x).c

end
mutual
/-- no number of the store at or above n -/
def D.und (n : Nat) : D → Bool
  | .tup xs => undL n xs
  | .loc k => decide (k < n)
  | _ => true
def undL (n : Nat) : List D → Bool
  | [] => true
  | d :: r => d.und n && undL n r
end
/-! ### statements -/
/-- how a statement ends -/
inductive Rs where
  | nx (e : Env) (M : Store) | rt (d : D) (M : Store) | exc (c : Nat) (fs : List (Str × D)) (e : Env) (M : Store) | bad
def Out.run {α : Type} (o : Out α) (e : Env) (f : α → Store → Rs) : Rs := match o with
  | .ok a M => f a M
  | .exc c fs M => .exc c fs e M
  | .bad => .bad
@[simp] theorem Out.run_ok {α : Type} (a : α) (M : Store) (e : Env) (f : α → Store → Rs) : (Out.ok a M).run e f = f a M := rfl
@[simp] theorem Out.run_exc {α : Type} (c : Nat) (fs : List (Str × D)) (M : Store) (e : Env) (f : α → Store → Rs) : (Out.exc c fs M : Out α).run e f = .exc c fs e M := rfl
@[simp] theorem Out.run_bad {α : Type} (e : Env) (f : α → Store → Rs) : (Out.bad : Out α).run e f = .bad := rfl
def Rs.andThen (r : Rs) (f : Env → Store → Rs) : Rs := match r with
  | .nx e M => f e M
  | .rt d M => .rt d M
  | .exc c fs e M => .exc c fs e M
  | .bad => .bad
@[simp] theorem Rs.andThen_nx (e : Env) (M : Store) (f : Env → Store → Rs) : (Rs.nx e M).andThen f = f e M := rfl
@[simp] theorem Rs.andThen_rt (d : D) (M : Store) (f : Env → Store → Rs) : (Rs.rt d M).andThen f = .rt d M := rfl
@[simp] theorem Rs.andThen_exc (c : Nat) (fs : List (Str × D)) (e : Env) (M : Store) (f : Env → Store → Rs) : (Rs.exc c fs e M).andThen f = .exc c fs e M := rfl
@[simp] theorem Rs.andThen_bad (f : Env → Store → Rs) : Rs.bad.andThen f = .bad := rfl
/-- o.f = v -/
def attE (G : Gl) (M : Store) (o : D) (f : Str) (v : D) : Out Unit := match o with
  | .loc n => match M[n]? with
    | some (.ins c fs) => if fs.length < 1000 ∧ G.fok c f = true then .ok () (M.set n (.ins c (putD f v fs))) else .bad
    | _ => .bad
  | _ => .bad
section
variable (G : Gl) (cl : Cl)
/-- to a target, behind its value -/
def asgT (cu : Option (Nat × List (Str × D))) (t : T) (v : D) (e : Env) (M : Store) : Rs := match t with
  | .nm i => .nx (e.set i (some v)) M
  | .tp is => match v with
    | .tup ds => match bindN is ds e with
      | some e' => .nx e' M
      | none => .bad
    | _ => .bad
  | .sub o i => (evE G cl cu o e M).run e fun x M1 => (evE G cl cu i e M1).run e fun y M2 => (setE M2 x y v).run e fun _ M3 => .nx e M3
  | .att o f => (evE G cl cu o e M).run e fun x M1 => (attE G M1 x f v).run e fun _ M2 => .nx e M2
/-- a for's turns -/
def forL (s : Src) (tg : List Nat) (sole : Bool) (body : Env → Store → Rs) : List D → Env → Store → Rs
  | [], e, M => if s.stands M = true then .nx e M else .bad
  | x :: r, e, M => if s.stands M = true then
      match bindT tg sole x e with
      | some e' => (body e' M).andThen (forL s tg sole body r)
      | none => .bad
    else .bad
/-- a while's turns -/
def whlL (c : Env → Store → Out Bool) (body : Env → Store → Rs) : Nat → Env → Store → Rs
  | 0, _, _ => .bad
  | n + 1, e, M => (c e M).run e fun b M1 => if b = true then (body e M1).andThen (whlL c body n) else .nx e M1
/-- raise C(..): what the exception bears -/
def raiE (c : Nat) (vs : List D) (e : Env) (M : Store) : Rs := match G.exi c with
  | none => if vs.length = 1 then .exc c [] e M else .bad
  | some fs => if vs.length = fs.length ∧ fs ≠ [] ∧ undL 0 vs = true then .exc c (fs.zip vs).reverse e M else .bad
def endTry (nm : Option Nat) (r : Rs) : Rs := match r with
  | .nx e M => .nx (match nm with | some i => e.set i none | none => e) M
  | .rt d M => .rt d M
  | _ => .bad
def exS : S → Option (Nat × List (Str × D)) → Env → Store → Rs
  | .nil, _, e, M => .nx e M
  | .cons x y, cu, e, M => (exS x cu e M).andThen (exS y cu)
  | .asg t x, cu, e, M => (evE G cl cu x e M).run e fun v M1 => asgT G cl cu t v e M1
  | .ex x, cu, e, M => (evE G cl cu x e M).run e fun _ M1 => .nx e M1
  | .ret x, cu, e, M => (evE G cl cu x e M).run e fun v M1 => .rt v M1
  | .retN, _, _, M => .rt .non M
  | .pas, _, e, M => .nx e M
  | .ite c a b, cu, e, M => (evT G cl cu c e M).run e fun t M1 => if t = true then exS a cu e M1 else exS b cu e M1
  | .for_ tg sole it body, cu, e, M => (evI G cl cu it e M).run e fun s M1 => forL s tg sole (exS body cu) s.items e M1
  | .whl c body, cu, e, M => whlL (evT G cl cu c) (exS body cu) 100000 e M
  | .rai c es, cu, e, M => (evA G cl cu es e M).run e fun vs M1 => raiE G c vs e M1
  | .tri body c nm suite, cu, e, M => match exS body cu e M with
    | .exc k fs e1 M1 => if G.isc k = true then
        if G.sub k c = true then endTry nm (exS suite (match nm with | some _ => some (k, fs) | none => none) (match nm with | some i => e1.set i none | none => e1) M1) else .exc k fs e1 M1
      else .bad
    | r => r
end

/-! ### a call's end: what no one holds any more is let go -/
def Ob.und (n : Nat) : Ob → Bool
  | .lst xs => undL n xs
  | .dct kvs => kvs.all fun kv => kv.2.und n
  | .dtt kvs => kvs.all fun kv => kv.2.und n
  | .ins _ fs => fs.all fun kv => kv.2.und n
mutual
/-- the numbers at or above n, in order -/
def D.locs (n : Nat) : D → List Nat
  | .tup xs => locsL n xs
  | .loc k => if k < n then [] else [k]
  | _ => []
def locsL (n : Nat) : List D → List Nat
  | [] => []
  | d :: r => d.locs n ++ locsL n r
end
def Ob.locs (n : Nat) : Ob → List Nat
  | .lst xs => locsL n xs
  | .dct kvs => locsL n (kvs.map (·.2))
  | .dtt kvs => locsL n (kvs.map (·.2))
  | .ins _ fs => locsL n (fs.map (·.2))
mutual
/-- renumbered -/
def D.ren (f : Nat → Nat) : D → D
  | .tup xs => .tup (renL f xs)
  | .loc k => .loc (f k)
  | d => d
def renL (f : Nat → Nat) : List D → List D
  | [] => []
  | d :: r => d.ren f :: renL f r
end
def Ob.ren (f : Nat → Nat) : Ob → Ob
  | .lst xs => .lst (renL f xs)
  | .dct kvs => .dct (kvs.map fun kv => (kv.1, kv.2.ren f))
  | .dtt kvs => .dtt (kvs.map fun kv => (kv.1, kv.2.ren f))
  | .ins c fs => .ins c (fs.map fun kv => (kv.1, kv.2.ren f))
/-- one more round of what is reached -/
def grow (n : Nat) (M : Store) (R : List Nat) : List Nat := (R ++ R.flatMap fun m => match M[m]? with | some o => o.locs n | none => []).eraseDups
/-- where the m of R come to stand -/
def renF (n : Nat) (R : List Nat) (m : Nat) : Nat := if m < n then m else n + R.idxOf m
open Classical in
/-- the old part holds nothing new that is not its own as it was -/
def oldOk (M M1 : Store) : Bool := decide (M.length ≤ M1.length ∧ ∀ i o, i < M.length → M1[i]? = some o → M[i]? = some o ∨ o.und M.length = true)
/-- what is kept of the new part: R, closed -/
def keepsR (n : Nat) (M1 : Store) (R : List Nat) : Bool := decide R.Nodup && R.all fun m => decide (n ≤ m) && match M1[m]? with
  | some o => (o.locs n).all fun k => R.contains k
  | none => false
def fin (M : Store) (d : D) (M1 : Store) : Out D :=
  if oldOk M M1 = true then
    let R := grow M.length M1 (grow M.length M1 (d.locs M.length).eraseDups)
    if (keepsR M.length M1 R && (d.locs M.length).all fun k => R.contains k) = true then
      .ok (d.ren (renF M.length R)) (M1.take M.length ++ R.filterMap fun m => (M1[m]?).map fun o => o.ren (renF M.length R))
    else .ok d M1
  else .ok d M1

/-! ### defs -/
structure Def where
  np : Nat   -- parameters
  ns : Nat   -- names in all
  body : S
/-- called with n calls deep to go -/
def callN (G : Gl) (P : Nat → Option Def) : Nat → Cl
  | 0, _, _, _ => .bad
  | n + 1, f, vs, M => match P f with
    | some d => if vs.length = d.np then
        match exS G (callN G P n) d.body none (vs.map some ++ List.replicate (d.ns - vs.length) none) M with
        | .nx _ M1 => fin M .non M1
        | .rt v M1 => fin M v M1
        | .exc c fs _ M1 => if oldOk M M1 = true ∧ (fs.all fun kv => kv.2.und 0) = true then .exc c fs (M1.take M.length) else .bad
        | .bad => .bad
      else .bad
    | none => .bad
end Dv
end
end

section
set_option Elab.async false
set_option autoImplicit false
set_option linter.all false
set_option maxRecDepth 100000
set_option maxHeartbeats 2000000
/-! DvB: what ties the evaluator's values and store to the abstract heap. -/
namespace Dv
open PySem L2

/-! ### values -/
/-- a list that is read and never written -/
def FrzL (K : PySem.W.Frag) (H : Hp) (a : Addr) (xs : List V) : Prop :=
  (∃ o, H a = some (.frz o (.lst xs))) ∨
    ∃ (o : Obj) (its : Array Value) (n : Nat), K.lookup a = some o ∧ o.cls = .type "list" ∧ o.dict = none ∧ o.data = .seq its n ∧ its.size ≤ sizeLine ∧ Vals xs its.toList
theorem FrzL.sq {K : PySem.W.Frag} {H : Hp} {a : Addr} {xs : List V} (h : FrzL K H a xs) : SqL K H a xs := by
  rcases h with ⟨o, h⟩ | h
  · exact .inl (.inr ⟨o, h⟩)
  · exact .inr h
/-- a tuple of the module's top -/
def KTup (K : PySem.W.Frag) (a : Addr) (xs : List V) : Prop :=
  ∃ (o : Obj) (its : Array Value) (n : Nat), K.lookup a = some o ∧ o.cls = .type "tuple" ∧ o.data = .seq its n ∧ its.size ≤ sizeLine ∧ Vals xs its.toList
mutual
def RV (K : PySem.W.Frag) (H : Hp) (ρ : List Addr) : D → V → Prop
  | .non, v => v = .non
  | .bl b, v => v = .bl b
  | .int i, v => v = .int i
  | .str s, v => v = .str s
  | .tup ds, v => ∃ t vs, v = .ref t ∧ H t = some (.tup vs) ∧ RVs K H ρ ds vs
  | .ktp xs, v => ∃ a, v = .ref a ∧ KTup K a (xs.map V.str)
  | .loc n, v => ∃ a, ρ[n]? = some a ∧ v = .ref a
  | .rol xs, v => ∃ a, v = .ref a ∧ FrzL K H a (xs.map V.int)
def RVs (K : PySem.W.Frag) (H : Hp) (ρ : List Addr) : List D → List V → Prop
  | [], vs => vs = []
  | d :: ds, vs => ∃ v r, vs = v :: r ∧ RV K H ρ d v ∧ RVs K H ρ ds r
end
/-- an object of the store, at an address -/
def RO (CA : Nat → Addr) (K : PySem.W.Frag) (H : Hp) (ρ : List Addr) : Ob → HO → Prop
  | .lst ds, h => ∃ vs, h = .lst vs ∧ RVs K H ρ ds vs
  | .dct kvs, h => ∃ ws, h = .dK ws ∧ ws.map (·.1) = kvs.map (·.1) ∧ RVs K H ρ (kvs.map (·.2)) (ws.map (·.2))
  | .dtt kvs, h => ∃ ws, h = .dT ws ∧ ws.map (·.1) = kvs.map (·.1) ∧ RVs K H ρ (kvs.map (·.2)) (ws.map (·.2))
  | .ins c fs, h => ∃ dx ws, h = .ins (CA c) dx ws ∧ ws.map (·.1) = fs.map (·.1) ∧ RVs K H ρ (fs.map (·.2)) (ws.map (·.2))
structure RS (CA : Nat → Addr) (K : PySem.W.Frag) (H : Hp) (ρ : List Addr) (M : Store) : Prop where
  len : ρ.length = M.length
  nd : ρ.Nodup
  at_ : ∀ (n : Nat) (o : Ob), M[n]? = some o → ∃ a h, ρ[n]? = some a ∧ H a = some h ∧ RO CA K H ρ o h
/-- what has become of the heap -/
structure St8 (H : Hp) (ρ : List Addr) (H' : Hp) (ρ' : List Addr) : Prop where
  pre : ρ <+: ρ'
  frm : ∀ a o, H a = some o → a ∉ ρ → H' a = some o
  new : ∀ a, a ∈ ρ' → a ∈ ρ ∨ H a = none
theorem St8.refl (H : Hp) (ρ : List Addr) : St8 H ρ H ρ := ⟨List.prefix_refl _, fun _ _ h _ => h, fun _ h => .inl h⟩
theorem St8.trans {H H1 H2 : Hp} {ρ ρ1 ρ2 : List Addr} (a : St8 H ρ H1 ρ1) (b : St8 H1 ρ1 H2 ρ2) : St8 H ρ H2 ρ2 := by
  refine ⟨a.pre.trans b.pre, fun x o h n => b.frm x o (a.frm x o h n) fun m => ?_, fun x m => ?_⟩
  · rcases a.new x m with z | z
    · exact n z
    · rw [z] at h; cases h
  · rcases b.new x m with z | z
    · exact a.new x z
    · by_cases hx : x ∈ ρ
      · exact .inl hx
      · refine .inr ?_
        cases q : H x with
        | none => rfl
        | some o => rw [a.frm x o q hx] at z; cases z
theorem prefix_get {ρ ρ' : List Addr} (h : ρ <+: ρ') {n : Nat} {a : Addr} (e : ρ[n]? = some a) : ρ'[n]? = some a := by
  obtain ⟨t, rfl⟩ := h
  rw [List.getElem?_append_left (List.getElem?_eq_some_iff.mp e).1, e]
section
variable {CA : Nat → Addr} {K : PySem.W.Frag} {H H' : Hp} {ρ ρ' : List Addr} {M : Store}
/-- what stands at the store's addresses is no tuple and nothing known -/
theorem RS.obj (R : RS CA K H ρ M) {a : Addr} (h : a ∈ ρ) : ∃ o, H a = some o ∧ (∀ xs, o ≠ .tup xs) ∧ (∀ ob u, o ≠ .frz ob u) ∧ ∀ x, o ≠ .own x := by
  obtain ⟨n, hn, e⟩ := List.mem_iff_getElem.mp h
  have hM : n < M.length := by rw [← R.len]; exact hn
  obtain ⟨b, o, e1, e2, e3⟩ := R.at_ n M[n] (List.getElem?_eq_getElem hM)
  rw [List.getElem?_eq_getElem hn, e] at e1
  cases e1
  refine ⟨o, e2, ?_⟩
  cases q : M[n] with
  | lst ds => rw [q] at e3; obtain ⟨vs, rfl, _⟩ := e3; exact ⟨fun _ z => (by cases z), fun _ _ z => (by cases z), fun _ z => (by cases z)⟩
  | dct kvs => rw [q] at e3; obtain ⟨vs, rfl, _⟩ := e3; exact ⟨fun _ z => (by cases z), fun _ _ z => (by cases z), fun _ z => (by cases z)⟩
  | dtt kvs => rw [q] at e3; obtain ⟨vs, rfl, _⟩ := e3; exact ⟨fun _ z => (by cases z), fun _ _ z => (by cases z), fun _ z => (by cases z)⟩
  | ins c fs => rw [q] at e3; obtain ⟨_, vs, rfl, _⟩ := e3; exact ⟨fun _ z => (by cases z), fun _ _ z => (by cases z), fun _ z => (by cases z)⟩
theorem RS.notin (R : RS CA K H ρ M) {a : Addr} {o : HO} (h : H a = some o) (t : (∃ xs, o = .tup xs) ∨ (∃ ob u, o = .frz ob u) ∨ ∃ x, o = .own x) : a ∉ ρ := fun m => by
  obtain ⟨o', e, h1, h2, h3⟩ := R.obj m
  rw [h] at e
  cases e
  rcases t with ⟨xs, rfl⟩ | ⟨ob, u, rfl⟩ | ⟨x, rfl⟩
  · exact h1 _ rfl
  · exact h2 _ _ rfl
  · exact h3 _ rfl
theorem sqT_mono (R : RS CA K H ρ M) (s : St8 H ρ H' ρ') {t : Addr} {vs : List V} (h : H t = some (.tup vs)) : H' t = some (.tup vs) := s.frm _ _ h (R.notin h (.inl ⟨_, rfl⟩))
theorem frzL_mono (R : RS CA K H ρ M) (s : St8 H ρ H' ρ') {t : Addr} {vs : List V} (h : FrzL K H t vs) : FrzL K H' t vs := by
  rcases h with ⟨o, h⟩ | h
  · exact .inl ⟨o, s.frm _ _ h (R.notin h (.inr (.inl ⟨_, _, rfl⟩)))⟩
  · exact .inr h
mutual
theorem RV.mono (R : RS CA K H ρ M) (s : St8 H ρ H' ρ') : ∀ (d : D) (v : V), RV K H ρ d v → RV K H' ρ' d v
  | .non, v, h => by simp only [RV] at h ⊢; exact h
  | .bl b, v, h => by simp only [RV] at h ⊢; exact h
  | .int i, v, h => by simp only [RV] at h ⊢; exact h
  | .str z, v, h => by simp only [RV] at h ⊢; exact h
  | .loc n, v, h => by
    simp only [RV] at h ⊢
    obtain ⟨a, e, rfl⟩ := h
    exact ⟨a, prefix_get s.pre e, rfl⟩
  | .rol xs, v, h => by
    simp only [RV] at h ⊢
    obtain ⟨a, rfl, e⟩ := h
    exact ⟨a, rfl, frzL_mono R s e⟩
  | .tup ds, v, h => by
    simp only [RV] at h ⊢
    obtain ⟨t, vs, rfl, e, r⟩ := h
    exact ⟨t, vs, rfl, sqT_mono R s e, RVs.mono R s ds vs r⟩
  | .ktp xs, v, h => by
    simp only [RV] at h ⊢
    exact h
theorem RVs.mono (R : RS CA K H ρ M) (s : St8 H ρ H' ρ') : ∀ (ds : List D) (vs : List V), RVs K H ρ ds vs → RVs K H' ρ' ds vs
  | [], vs, h => by simp only [RVs] at h ⊢; exact h
  | d :: ds, vs, h => by
    simp only [RVs] at h ⊢
    obtain ⟨v, r, rfl, h1, h2⟩ := h
    exact ⟨v, r, rfl, RV.mono R s d v h1, RVs.mono R s ds r h2⟩
end
theorem RO.mono (R : RS CA K H ρ M) (s : St8 H ρ H' ρ') {o : Ob} {h : HO} (x : RO CA K H ρ o h) : RO CA K H' ρ' o h := by
  cases o with
  | lst ds => obtain ⟨vs, e, r⟩ := x; exact ⟨vs, e, RVs.mono R s _ _ r⟩
  | dct kvs => obtain ⟨vs, e, e2, r⟩ := x; exact ⟨vs, e, e2, RVs.mono R s _ _ r⟩
  | dtt kvs => obtain ⟨vs, e, e2, r⟩ := x; exact ⟨vs, e, e2, RVs.mono R s _ _ r⟩
  | ins c fs => obtain ⟨dx, vs, e, e2, r⟩ := x; exact ⟨dx, vs, e, e2, RVs.mono R s _ _ r⟩
/-- a thing beside the store is laid -/
theorem St8.lay {p : Addr} {o : HO} (hp : H p = none) : St8 H ρ (upd H p o) ρ := ⟨List.prefix_refl _, fun a u h _ => by rw [upd_ne (ne_of_none h hp)]; exact h, fun _ h => .inl h⟩
theorem RS.lay (R : RS CA K H ρ M) {p : Addr} {o : HO} (hp : H p = none) : RS CA K (upd H p o) ρ M := by
  refine ⟨R.len, R.nd, fun n ob e => ?_⟩
  obtain ⟨a, h, e1, e2, e3⟩ := R.at_ n ob e
  exact ⟨a, h, e1, by rw [upd_ne (ne_of_none e2 hp)]; exact e2, RO.mono R (St8.lay hp) e3⟩
/-- a new object of the store -/
theorem St8.push {p : Addr} {o : HO} (hp : H p = none) : St8 H ρ (upd H p o) (ρ ++ [p]) := ⟨⟨[p], rfl⟩, fun a u h _ => by rw [upd_ne (ne_of_none h hp)]; exact h, fun a h => by
  rcases List.mem_append.mp h with h | h
  · exact .inl h
  · have e : a = p := by simpa using h
    exact .inr (e ▸ hp)⟩
theorem RS.push (R : RS CA K H ρ M) {p : Addr} {o : HO} {ob : Ob} (hp : H p = none) (x : RO CA K H ρ ob o) : RS CA K (upd H p o) (ρ ++ [p]) (M ++ [ob]) := by
  have s : St8 H ρ (upd H p o) (ρ ++ [p]) := St8.push hp
  refine ⟨by simp [R.len], ?_, fun n u e => ?_⟩
  · rw [List.nodup_append]
    refine ⟨R.nd, by simp, fun a ha b hb => ?_⟩
    have e : b = p := by simpa using hb
    rintro rfl
    obtain ⟨o', e', _⟩ := R.obj ha
    rw [e, hp] at e'
    cases e'
  · by_cases hn : n < M.length
    · rw [List.getElem?_append_left hn] at e
      obtain ⟨a, h, e1, e2, e3⟩ := R.at_ n u e
      exact ⟨a, h, prefix_get s.pre e1, by rw [upd_ne (ne_of_none e2 hp)]; exact e2, RO.mono R s e3⟩
    · have hl : n = M.length := by
        have := (List.getElem?_eq_some_iff.mp e).1
        simp at this
        omega
      subst hl
      rw [List.getElem?_append_right (Nat.le_refl _)] at e
      simp at e
      subst e
      refine ⟨p, o, ?_, upd_same, RO.mono R s x⟩
      rw [← R.len, List.getElem?_append_right (Nat.le_refl _)]
      simp
/-- an object of the store is written -/
theorem St8.write {a : Addr} {o : HO} (ha : a ∈ ρ) : St8 H ρ (upd H a o) ρ := ⟨List.prefix_refl _, fun b u h n => by rw [upd_ne (fun z => n (by rw [z]; exact ha))]; exact h, fun _ h => .inl h⟩
theorem RS.write (R : RS CA K H ρ M) {a : Addr} {o : HO} {n : Nat} {ob : Ob} (ha : ρ[n]? = some a) (x : RO CA K H ρ ob o) : RS CA K (upd H a o) ρ (M.set n ob) := by
  have ma : a ∈ ρ := List.mem_of_getElem? ha
  have s : St8 H ρ (upd H a o) ρ := St8.write ma
  have hn : n < M.length := by rw [← R.len]; exact (List.getElem?_eq_some_iff.mp ha).1
  refine ⟨by simp [R.len], R.nd, fun m u e => ?_⟩
  by_cases hm : m = n
  · subst hm
    rw [List.getElem?_set_self hn] at e
    cases e
    exact ⟨a, o, ha, upd_same, RO.mono R s x⟩
  · rw [List.getElem?_set_ne (Ne.symm hm)] at e
    obtain ⟨b, h, e1, e2, e3⟩ := R.at_ m u e
    refine ⟨b, h, e1, ?_, RO.mono R s e3⟩
    rw [upd_ne]
    · exact e2
    · rintro rfl
      obtain ⟨h1, e1'⟩ := List.getElem?_eq_some_iff.mp e1
      obtain ⟨h2, e2'⟩ := List.getElem?_eq_some_iff.mp ha
      exact hm ((List.getElem_inj R.nd).mp (e1'.trans e2'.symm))
theorem RVs.get : ∀ {ds : List D} {vs : List V} {i : Nat} {d : D}, RVs K H ρ ds vs → ds[i]? = some d → ∃ v, vs[i]? = some v ∧ RV K H ρ d v
  | [], _, _, _, _, e => by simp at e
  | x :: ds, vs, 0, d, h, e => by
    simp only [RVs] at h
    obtain ⟨v, r, rfl, h1, h2⟩ := h
    simp at e
    subst e
    exact ⟨v, rfl, h1⟩
  | x :: ds, vs, i + 1, d, h, e => by
    simp only [RVs] at h
    obtain ⟨v, r, rfl, h1, h2⟩ := h
    obtain ⟨w, e1, e2⟩ := RVs.get (i := i) (d := d) h2 (by simpa using e)
    exact ⟨w, by simpa using e1, e2⟩
theorem RVs.length : ∀ {ds : List D} {vs : List V}, RVs K H ρ ds vs → vs.length = ds.length
  | [], _, h => by simp only [RVs] at h; rw [h]; rfl
  | d :: ds, vs, h => by
    simp only [RVs] at h
    obtain ⟨v, r, rfl, h1, h2⟩ := h
    rw [List.length_cons, List.length_cons, RVs.length h2]
theorem RVs.nil : RVs K H ρ [] [] := by simp only [RVs]
theorem RVs.cons {d : D} {v : V} {ds : List D} {vs : List V} (h : RV K H ρ d v) (t : RVs K H ρ ds vs) : RVs K H ρ (d :: ds) (v :: vs) := by
  simp only [RVs]
  exact ⟨v, vs, rfl, h, t⟩
theorem RVs.app : ∀ {ds es : List D} {vs ws : List V}, RVs K H ρ ds vs → RVs K H ρ es ws → RVs K H ρ (ds ++ es) (vs ++ ws)
  | [], es, vs, ws, h, t => by simp only [RVs] at h; subst h; exact t
  | d :: ds, es, vs, ws, h, t => by
    simp only [RVs] at h
    obtain ⟨v, r, rfl, h1, h2⟩ := h
    exact RVs.cons h1 (RVs.app h2 t)
theorem RVs.drop : ∀ {ds : List D} {vs : List V} (n : Nat), RVs K H ρ ds vs → RVs K H ρ (ds.drop n) (vs.drop n)
  | _, _, 0, h => h
  | [], vs, n + 1, h => by simp only [RVs] at h; subst h; exact RVs.nil
  | d :: ds, vs, n + 1, h => by
    simp only [RVs] at h
    obtain ⟨v, r, rfl, h1, h2⟩ := h
    exact RVs.drop n h2
theorem RVs.take : ∀ {ds : List D} {vs : List V} (n : Nat), RVs K H ρ ds vs → RVs K H ρ (ds.take n) (vs.take n)
  | _, _, 0, h => RVs.nil
  | [], vs, n + 1, h => by simp only [RVs] at h; subst h; exact RVs.nil
  | d :: ds, vs, n + 1, h => by
    simp only [RVs] at h
    obtain ⟨v, r, rfl, h1, h2⟩ := h
    exact RVs.cons h1 (RVs.take n h2)
theorem RVs.set : ∀ {ds : List D} {vs : List V} (n : Nat) {d : D} {v : V}, RVs K H ρ ds vs → RV K H ρ d v → RVs K H ρ (ds.set n d) (vs.set n v)
  | [], vs, n, _, _, h, _ => by simp only [RVs] at h; subst h; exact RVs.nil
  | d :: ds, vs, 0, _, _, h, x => by
    simp only [RVs] at h
    obtain ⟨v, r, rfl, h1, h2⟩ := h
    exact RVs.cons x h2
  | d :: ds, vs, n + 1, _, _, h, x => by
    simp only [RVs] at h
    obtain ⟨v, r, rfl, h1, h2⟩ := h
    exact RVs.cons h1 (RVs.set n h2 x)
theorem RVs.rev : ∀ {ds : List D} {vs : List V}, RVs K H ρ ds vs → RVs K H ρ ds.reverse vs.reverse
  | [], vs, h => by simp only [RVs] at h; subst h; exact RVs.nil
  | d :: ds, vs, h => by
    simp only [RVs] at h
    obtain ⟨v, r, rfl, h1, h2⟩ := h
    rw [List.reverse_cons, List.reverse_cons]
    exact RVs.app (RVs.rev h2) (RVs.cons h1 RVs.nil)
theorem RVs.ints : ∀ {is : List Int} {vs : List V}, RVs K H ρ (is.map D.int) vs → vs = is.map V.int
  | [], vs, h => by simpa [RVs] using h
  | i :: is, vs, h => by
    simp only [List.map_cons, RVs, RV] at h
    obtain ⟨v, r, rfl, rfl, h2⟩ := h
    rw [RVs.ints h2]
    rfl
theorem RVs.of_ints : ∀ {is : List Int}, RVs K H ρ (is.map D.int) (is.map V.int)
  | [] => RVs.nil
  | i :: is => RVs.cons (by simp only [RV]) RVs.of_ints
theorem RVs.of_strs : ∀ {is : List Str}, RVs K H ρ (is.map D.str) (is.map V.str)
  | [] => RVs.nil
  | i :: is => RVs.cons (by simp only [RV]) RVs.of_strs
theorem intsOf_eq : ∀ {ds : List D} {is : List Int}, intsOf ds = some is → ds = is.map D.int
  | [], is, h => by simp only [intsOf] at h; cases h; rfl
  | d :: r, is, h => by
    cases d with
    | int i =>
      simp only [intsOf] at h
      cases q : intsOf r with
      | none => rw [q] at h; cases h
      | some js =>
        rw [q] at h
        cases h
        rw [intsOf_eq q]
        rfl
    | _ => simp [intsOf] at h
theorem strsOf_eq : ∀ {ds : List D} {is : List Str}, strsOf ds = some is → ds = is.map D.str
  | [], is, h => by simp only [strsOf] at h; cases h; rfl
  | d :: r, is, h => by
    cases d with
    | str i =>
      simp only [strsOf] at h
      cases q : strsOf r with
      | none => rw [q] at h; cases h
      | some js =>
        rw [q] at h
        cases h
        rw [strsOf_eq q]
        rfl
    | _ => simp [strsOf] at h
theorem RVs.strs : ∀ {is : List Str} {vs : List V}, RVs K H ρ (is.map D.str) vs → vs = is.map V.str
  | [], vs, h => by simpa [RVs] using h
  | i :: is, vs, h => by
    simp only [List.map_cons, RVs, RV] at h
    obtain ⟨v, r, rfl, rfl, h2⟩ := h
    rw [RVs.strs h2]
    rfl
/-- a list of the store -/
theorem RS.lst (R : RS CA K H ρ M) {n : Nat} {ds : List D} (h : lstAt M n = some ds) : ∃ a vs, ρ[n]? = some a ∧ H a = some (.lst vs) ∧ RVs K H ρ ds vs := by
  unfold lstAt at h
  split at h
  · rename_i xs e
    cases h
    obtain ⟨a, u, e1, e2, vs, rfl, r⟩ := R.at_ n _ e
    exact ⟨a, vs, e1, e2, r⟩
  · cases h
theorem RS.lst' (R : RS CA K H ρ M) {n : Nat} {ds : List D} (h : M[n]? = some (.lst ds)) : ∃ a vs, ρ[n]? = some a ∧ H a = some (.lst vs) ∧ RVs K H ρ ds vs := by
  obtain ⟨a, u, e1, e2, vs, rfl, r⟩ := R.at_ n _ h
  exact ⟨a, vs, e1, e2, r⟩
end

/-! ### the slots -/
def RE (K : PySem.W.Frag) (H : Hp) (ρ : List Addr) (e : Env) (σ : St) : Prop := e.length = σ.length ∧ ∀ (i : Nat) (d : D), e[i]? = some (some d) → ∃ v, σ[i]? = some (some v) ∧ RV K H ρ d v
/-- the classes' addresses; what more is known of the slots -/
structure Ca where
  a : Nat → Addr
  sg : St → Hp → Prop
  mono : ∀ {σ : St} {H H' : Hp} {ρ ρ' : List Addr}, St8 H ρ H' ρ' → (∀ p, p ∈ ρ → ∃ o, H p = some o ∧ (∀ fs, o ≠ .xd fs) ∧ (∀ xs, o ≠ .tup xs) ∧ ∀ ob u, o ≠ .frz ob u) → sg σ H → sg σ H'
instance : CoeFun Ca fun _ => Nat → Addr := ⟨Ca.a⟩
instance : Coe Ca (Nat → Addr) := ⟨Ca.a⟩
theorem RS.noxd {CA : Nat → Addr} {K : PySem.W.Frag} {H : Hp} {ρ : List Addr} {M : Store} (R : RS CA K H ρ M) : ∀ p fs, H p = some (.xd fs) → p ∉ ρ := fun p fs e m => by
  obtain ⟨n, hn, en⟩ := List.mem_iff_getElem.mp m
  have hM : n < M.length := by rw [← R.len]; exact hn
  obtain ⟨b, o, e1, e2, e3⟩ := R.at_ n M[n] (List.getElem?_eq_getElem hM)
  rw [List.getElem?_eq_getElem hn, en] at e1
  cases e1
  rw [e] at e2
  cases e2
  cases q : M[n] with
  | lst ds => rw [q] at e3; obtain ⟨vs, z, _⟩ := e3; cases z
  | dct kvs => rw [q] at e3; obtain ⟨vs, z, _⟩ := e3; cases z
  | dtt kvs => rw [q] at e3; obtain ⟨vs, z, _⟩ := e3; cases z
  | ins c fs => rw [q] at e3; obtain ⟨_, vs, z, _⟩ := e3; cases z
theorem RS.clean {CA : Nat → Addr} {K : PySem.W.Frag} {H : Hp} {ρ : List Addr} {M : Store} (R : RS CA K H ρ M) : ∀ p, p ∈ ρ → ∃ o, H p = some o ∧ (∀ fs, o ≠ .xd fs) ∧ (∀ xs, o ≠ .tup xs) ∧ ∀ ob u, o ≠ .frz ob u := fun p m => by
  obtain ⟨o, e, h1, h2, _⟩ := R.obj m
  exact ⟨o, e, fun fs z => R.noxd p fs (z ▸ e) m, h1, h2⟩
structure Rel (CA : Ca) (K : PySem.W.Frag) (H : Hp) (ρ : List Addr) (e : Env) (σ : St) (M : Store) : Prop where
  st : RS CA K H ρ M
  en : RE K H ρ e σ
  sg : CA.sg σ H
theorem Rel.next {CA : Ca} {K : PySem.W.Frag} {H H' : Hp} {ρ ρ' : List Addr} {e : Env} {σ : St} {M M' : Store} (r : Rel CA K H ρ e σ M) (s : St8 H ρ H' ρ') (r' : RS CA K H' ρ' M') : Rel CA K H' ρ' e σ M' :=
  ⟨r', ⟨r.en.1, fun i d h => by
    obtain ⟨v, e1, e2⟩ := r.en.2 i d h
    exact ⟨v, e1, RV.mono r.st s d v e2⟩⟩, CA.mono s r.st.clean r.sg⟩
theorem RE.set {K : PySem.W.Frag} {H : Hp} {ρ : List Addr} {e : Env} {σ : St} (r : RE K H ρ e σ) (i : Nat) {d : D} {v : V} (h : RV K H ρ d v) : RE K H ρ (e.set i (some d)) (σ.set i (some v)) := by
  refine ⟨by simp [r.1], fun j x hx => ?_⟩
  by_cases hj : i = j
  · subst hj
    by_cases hi : i < e.length
    · rw [List.getElem?_set_self hi] at hx
      cases hx
      exact ⟨v, List.getElem?_set_self (r.1 ▸ hi), h⟩
    · rw [List.getElem?_eq_none (by simpa using hi)] at hx
      cases hx
  · rw [List.getElem?_set_ne hj] at hx ⊢
    exact r.2 j x hx
theorem RE.unset {K : PySem.W.Frag} {H : Hp} {ρ : List Addr} {e : Env} {σ : St} (r : RE K H ρ e σ) (i : Nat) : RE K H ρ (e.set i none) (σ.set i none) := by
  refine ⟨by simp [r.1], fun j x hx => ?_⟩
  by_cases hj : i = j
  · subst hj
    by_cases hi : i < e.length
    · rw [List.getElem?_set_self hi] at hx
      cases hx
    · rw [List.getElem?_eq_none (by simpa using hi)] at hx
      cases hx
  · rw [List.getElem?_set_ne hj] at hx ⊢
    exact r.2 j x hx
end Dv
end

section
set_option Elab.async false
set_option autoImplicit false
set_option linter.all false
set_option maxRecDepth 100000
set_option maxHeartbeats 2000000
/-! DvC: what is wanted behind the evaluator's end; operators by values. -/
namespace Dv
open PySem L2

/-! ### the weakest that a piece of syntax asks -/
def TMX (X : Cx) (e : Expr) : TE := fun σ H Q => ∀ (pins : List (Addr × Obj)) (s : Shared), Inv X pins σ H s → wpAny (model X.prog X.w) X.A (eval e X.env) (EP X pins σ Q) X.xe s
theorem pe_tm (X : Cx) (e : Expr) : PE X e (TMX X e) := ⟨fun pins s _ _ _ I h => h pins s I⟩
theorem tm_pe {X : Cx} {e : Expr} {t : TE} {σ : L2.St} {H : Hp} {Q : VK} (h : PE X e t) (q : t σ H Q) : TMX X e σ H Q := fun pins s I => h.run pins s σ H Q I q
def TMT (X : Cx) (e : Expr) : TT := fun σ H Q => ∀ (pins : List (Addr × Obj)) (s : Shared), Inv X pins σ H s → wpAny (model X.prog X.w) X.A (isTrue e X.env (eval e X.env)) (TP X pins σ Q) X.xe s
theorem pt_tm (X : Cx) (e : Expr) : PT X e (TMT X e) := ⟨fun pins s _ _ _ I h => h pins s I⟩
theorem tm_pt {X : Cx} {e : Expr} {t : TT} {σ : L2.St} {H : Hp} {Q : Bool → Hp → Prop} (h : PT X e t) (q : t σ H Q) : TMT X e σ H Q := fun pins s I => h.run pins s σ H Q I q
def TMW (X : Cx) (e : Expr) : TT := fun σ H Q => ∀ (whole : PySem.Sem Value) (pins : List (Addr × Obj)) (s : Shared), Inv X pins σ H s → wpAny (model X.prog X.w) X.A (isTrue e X.env whole) (TP X pins σ Q) X.xe s
theorem pw_tm (X : Cx) (e : Expr) : PW X e (TMW X e) := ⟨fun whole pins s _ _ _ I h => h whole pins s I⟩
theorem tm_pw {X : Cx} {e : Expr} {t : TT} {σ : L2.St} {H : Hp} {Q : Bool → Hp → Prop} (h : PW X e t) (q : t σ H Q) : TMW X e σ H Q := fun whole pins s I => h.run whole pins s σ H Q I q
def TMA (X : Cx) (es : List Expr) : TA := fun σ H Q => ∀ (pos : Pos) (pins : List (Addr × Obj)) (s : Shared), Inv X pins σ H s → wpAny (model X.prog X.w) X.A (spliced (backTo pos (starEach es X.env))) (AP X pins σ Q) X.xe s
theorem pa_tm (X : Cx) (es : List Expr) : PA X es (TMA X es) := ⟨fun pos pins s _ _ _ I h => h pos pins s I⟩
theorem tm_pa {X : Cx} {es : List Expr} {t : TA} {σ : L2.St} {H : Hp} {Q : List V → Hp → Prop} (h : PA X es t) (q : t σ H Q) : TMA X es σ H Q := fun pos pins s I => h.run pos pins s σ H Q I q
def TMP (X : Cx) (e : Option Expr) : TO := fun σ H Q => ∀ (pins : List (Addr × Obj)) (s : Shared), Inv X pins σ H s → wpAny (model X.prog X.w) X.A (evalPart e X.env) (fun u s' => ∃ o H', Inv X pins σ H' s' ∧ IsPart u o ∧ Q o H') X.xe s
theorem po_tm (X : Cx) (e : Option Expr) : PO X e (TMP X e) := ⟨fun pins s _ _ _ I h => h pins s I⟩
theorem tm_po {X : Cx} {e : Option Expr} {t : TO} {σ : L2.St} {H : Hp} {Q : Option Int → Hp → Prop} (h : PO X e t) (q : t σ H Q) : TMP X e σ H Q := fun pins s I => h.run pins s σ H Q I q
def TMI (X : Cx) (tg e : Expr) : TI := fun σ H R => ∀ (pins : List (Addr × Obj)) (s : Shared), Inv X pins σ H s → wpAny (model X.prog X.w) X.A (eval e X.env) (fun v s1 => wpAny (model X.prog X.w) X.A (pyIter v) (PIE X pins σ tg R) X.xe s1) X.xe s
theorem pi_tm (X : Cx) (tg e : Expr) : PI X tg e (TMI X tg e) := ⟨fun pins s _ _ _ I h => h pins s I⟩
theorem tm_pi {X : Cx} {tg e : Expr} {t : TI} {σ : L2.St} {H : Hp} {R : It → Hp → Prop} (h : PI X tg e t) (q : t σ H R) : TMI X tg e σ H R := fun pins s I => h.run pins s σ H R I q
def TMS (X : Cx) (st : Stmt) : TS := fun D σ H => ∀ (pins : List (Addr × Obj)) (s : Shared), Inv X pins σ H s → wpAny (model X.prog X.w) X.A (exec st X.env) (SP X pins D) X.xe s
theorem ps_tm (X : Cx) (st : Stmt) : PS X st (TMS X st) := ⟨fun pins s _ _ _ I h => h pins s I⟩
theorem tm_ps {X : Cx} {st : Stmt} {t : TS} {σ : L2.St} {H : Hp} {D : Ends} (h : PS X st t) (q : t D σ H) : TMS X st D σ H := fun pins s I => h.run pins s σ H D I q
def TMB (X : Cx) (st : List Stmt) : TS := fun D σ H => ∀ (pins : List (Addr × Obj)) (s : Shared), Inv X pins σ H s → wpAny (model X.prog X.w) X.A (execs st X.env) (SP X pins D) X.xe s
theorem pss_tm (X : Cx) (st : List Stmt) : PSs X st (TMB X st) := ⟨fun pins s _ _ _ I h => h pins s I⟩
theorem tm_pss {X : Cx} {st : List Stmt} {t : TS} {σ : L2.St} {H : Hp} {D : Ends} (h : PSs X st t) (q : t D σ H) : TMB X st D σ H := fun pins s I => h.run pins s σ H D I q
def TMO (X : Cx) (f : Value → Value → PySem.Sem Value) : R2 := fun x y H Q => ∀ (pins : List (Addr × Obj)) (s : Shared) (σ : L2.St) (v u : Value), Inv X pins σ H s → RelV x v → RelV y u → wpAny (model X.prog X.w) X.A (f v u) (EP X pins σ Q) X.xe s
theorem op_tm (X : Cx) (f : Value → Value → PySem.Sem Value) : OpR X f (TMO X f) := fun pins s σ H x y v u Q I rx ry h => h pins s σ v u I rx ry
theorem tm_op {X : Cx} {f : Value → Value → PySem.Sem Value} {r : R2} {x y : V} {H : Hp} {Q : VK} (h : OpR X f r) (q : r x y H Q) : TMO X f x y H Q := fun pins s σ v u I rx ry => h pins s σ H x y v u Q I rx ry q
def TMC (X : Cx) (f : Value) : List V → Hp → VK → Prop := fun xs H Q => ∀ (pins : List (Addr × Obj)) (s : Shared) (σ : L2.St) (us : List Value), Inv X pins σ H s → Vals xs us → wpAny (model X.prog X.w) X.A (call f us) (EP X pins σ Q) X.xe s
theorem call_tm (X : Cx) (f : Value) : CallR X f (TMC X f) := fun pins s σ H xs us Q I r h => h pins s σ us I r
theorem tm_call {X : Cx} {f : Value} {r : List V → Hp → VK → Prop} {xs : List V} {H : Hp} {Q : VK} (h : CallR X f r) (q : r xs H Q) : TMC X f xs H Q := fun pins s σ us I rv => h pins s σ H xs us Q I rv q
def TMM (X : Cx) (id : String) : V → List V → Hp → VK → Prop := fun x xs H Q => ∀ (pins : List (Addr × Obj)) (s : Shared) (σ : L2.St) (v : Value) (us : List Value), Inv X pins σ H s → RelV x v → Vals xs us → wpAny (model X.prog X.w) X.A (call (.builtin id) (v :: us)) (EP X pins σ Q) X.xe s
theorem mt_tm (X : Cx) (id : String) : MtR X id (TMM X id) := fun pins s σ H x xs v us Q I rx rv h => h pins s σ v us I rx rv
theorem tm_mt {X : Cx} {id : String} {r : V → List V → Hp → VK → Prop} {x : V} {xs : List V} {H : Hp} {Q : VK} (h : MtR X id r) (q : r x xs H Q) : TMM X id x xs H Q := fun pins s σ v us I rx rv => h pins s σ H x xs v us Q I rx rv q
/-- o[i] -/
def TMG (X : Cx) (value slice : Expr) : R2 := fun x y H Q => ∀ (pins : List (Addr × Obj)) (s : Shared) (σ : L2.St) (v u : Value), Inv X pins σ H s → RelV x v → RelV y u → wpAny (model X.prog X.w) X.A (PyProof.Rows.subscriptTail value slice v u) (EP X pins σ Q) X.xe s
theorem pe_ixm {X : Cx} {a b : Expr} {ta tb : TE} {pos : Pos} (ha : PE X a ta) (hb : PE X b tb) : PE X (.Subscript a b pos) (tOp (TMG X a b) ta tb) := by
  refine ⟨fun pins s σ H Q I h => ?_⟩
  exact PyProof.Rows.Subscript_ (binT ha hb I h fun v u s2 x y H2 I2 rx ry q => q pins s2 σ v u I2 rx ry)
theorem tm_ix {X : Cx} {a b : Expr} {r : R2} {x y : V} {H : Hp} {Q : VK} (h : IxR X r) (hs : PlainIx b) (q : r x y H Q) : TMG X a b x y H Q := fun pins s σ v u I rx ry => h a b pins s σ H x y v u Q I rx ry q (hs _ _)
/-- d[k] of a dict -/
theorem tm_dix {X : Cx} {a b : Expr} {x y : V} {H : Hp} {Q : VK} (hu : X.A.units + 1 < cLine) (hs : PlainIx b) (q : ∃ d v, x = .ref d ∧ DGet H d y (some v) ∧ Q v H) : TMG X a b x y H Q := fun pins s σ v u I rx ry => by
  obtain ⟨d, z, rfl, g, q⟩ := q
  obtain rfl : v = Value.ref d := rx
  have hT := dict_typeIs I g
  unfold PyProof.Rows.subscriptTail
  refine wpAny_bind ?_
  rw [getitemInPython_of_ne hT.not_modules]
  refine wpAny_bind (wpAny_specialOf hT PySem.F.slot_dict_getitem.lookup ?_)
  have fin : wpAny (model X.prog X.w) X.A (subscripted b false (Value.ref d) u) (fun r s₃ => wpAny (model X.prog X.w) X.A (letTemporaryGo a (Value.ref d) r >>= fun _ => pure r) (EP X pins σ Q) X.xe s₃) X.xe s := by
    rw [hs (Value.ref d) u]
    exact wpAny_operating (d_getItem hu I g ry fun w' s3 I3 rw' => wpAny_bind (wpAny_letTemporaryGo (wpAny_pure ⟨z, H, I3, rw', q⟩)))
  first
    | exact wpAny_pure (wpAny_bind fin)
    | exact wpAny_bind fin
    | exact fin
end Dv
end

section
set_option Elab.async false
set_option autoImplicit false
set_option linter.all false
set_option maxRecDepth 100000
set_option maxHeartbeats 2000000
/-! DvD: what is wanted behind the evaluator's end; operators by values. -/
namespace Dv
open PySem L2

/-! ### exceptions -/
/-- what an exception's fields are, behind it -/
def XR (K : PySem.W.Frag) (H : Hp) (fs : List (Str × D)) : Option Addr → Prop
  | none => fs = []
  | some d => fs ≠ [] ∧ ∃ ws, H d = some (.xd ws) ∧ ∀ f x, fs.lookup f = some x → ∃ v, ws.lookup f = some v ∧ RV K H [] x v
section
variable (CA : Nat → Addr) (K : PySem.W.Frag) (W : WX) (σ : L2.St)
def Post {α : Type} (H : Hp) (ρ : List Addr) (o : Out α) (k : α → Store → Hp → List Addr → Prop) : Prop := match o with
  | .ok a M => ∀ H' ρ', St8 H ρ H' ρ' → RS CA K H' ρ' M → k a M H' ρ'
  | .exc c fs M => ∀ dd H' ρ', St8 H ρ H' ρ' → RS CA K H' ρ' M → XR K H' fs dd → W (.ref (CA c)) dd σ H'
  | .bad => False
end
section
variable {CA : Nat → Addr} {K : PySem.W.Frag} {W : WX} {σ : L2.St} {H H1 : Hp} {ρ ρ1 : List Addr} {α β : Type}
theorem Post.step {o : Out α} {k : α → Store → Hp → List Addr → Prop} (s : St8 H ρ H1 ρ1) (p : Post CA K W σ H ρ o k) : Post CA K W σ H1 ρ1 o k := by
  cases o with
  | ok a M => exact fun H' ρ' s' R => p H' ρ' (s.trans s') R
  | exc c fs M => exact fun dd H' ρ' s' R x => p dd H' ρ' (s.trans s') R x
  | bad => exact p
theorem Post.mono {o : Out α} {k k' : α → Store → Hp → List Addr → Prop} (p : Post CA K W σ H ρ o k) (h : ∀ a M H' ρ', o = .ok a M → St8 H ρ H' ρ' → RS CA K H' ρ' M → k a M H' ρ' → k' a M H' ρ') : Post CA K W σ H ρ o k' := by
  cases o with
  | ok a M => exact fun H' ρ' s' R => h _ _ _ _ rfl s' R (p H' ρ' s' R)
  | exc c fs M => exact p
  | bad => exact p
theorem Post.bind {o : Out α} {g : α → Store → Out β} {k : β → Store → Hp → List Addr → Prop} (p : Post CA K W σ H ρ (o.bind g) k) : Post CA K W σ H ρ o fun a M H1 ρ1 => Post CA K W σ H1 ρ1 (g a M) k := by
  cases o with
  | ok a M => exact fun H' ρ' s' R => p.step s'
  | exc c fs M => exact p
  | bad => exact p
theorem Post.here {a : α} {M : Store} {k : α → Store → Hp → List Addr → Prop} (p : Post CA K W σ H ρ (.ok a M) k) (R : RS CA K H ρ M) : k a M H ρ := p H ρ (St8.refl H ρ) R
theorem Post.ofO {o : Option α} {M : Store} {k : α → Store → Hp → List Addr → Prop} (p : Post CA K W σ H ρ (ofO o M) k) : ∃ a, o = some a ∧ Post CA K W σ H ρ (.ok a M) k := by
  cases o with
  | none => exact p.elim
  | some a => exact ⟨a, rfl, p⟩
/-- a value's end -/
abbrev kV' (K : PySem.W.Frag) (Q : VK) : D → Store → Hp → List Addr → Prop := fun d _ H' ρ' => ∀ v, RV K H' ρ' d v → Q v H'
/-- a new object: the store's, at any new place -/
theorem Post.mk {M : Store} {ob : Ob} {o : HO} {Q : VK} (p : Post CA K W σ H ρ (Dv.mk M ob) (kV' K Q)) (R : RS CA K H ρ M) (x : RO CA K H ρ ob o) (q : Addr) (hq : H q = none) : Q (.ref q) (upd H q o) := by
  refine p (upd H q o) (ρ ++ [q]) (St8.push hq) (R.push hq x) (.ref q) ?_
  simp only [RV]
  exact ⟨q, by rw [← R.len]; simp, rfl⟩
theorem Post.if_ {c : Prop} [Decidable c] {o : Out α} {k : α → Store → Hp → List Addr → Prop} (p : Post CA K W σ H ρ (if c then o else .bad) k) : c ∧ Post CA K W σ H ρ o k := by
  by_cases h : c
  · rw [if_pos h] at p; exact ⟨h, p⟩
  · rw [if_neg h] at p; exact p.elim
/-- the same value, beside a new tuple -/
theorem Post.tup {M : Store} {ds : List D} {vs : List V} {Q : VK} (p : Post CA K W σ H ρ (.ok (.tup ds) M) (kV' K Q)) (R : RS CA K H ρ M) (r : RVs K H ρ ds vs) (q : Addr) (hq : H q = none) : Q (.ref q) (upd H q (.tup vs)) := by
  refine p (upd H q (.tup vs)) ρ (St8.lay hq) (R.lay hq) (.ref q) ?_
  simp only [RV]
  exact ⟨q, vs, rfl, upd_same, RVs.mono R (St8.lay hq) _ _ r⟩
end

/-! ### scalars as values -/
section
variable {CA : Nat → Addr} {K : PySem.W.Frag} {H : Hp} {ρ : List Addr} {M : Store}
theorem rv_non {v : V} (h : RV K H ρ .non v) : v = .non := by simpa only [RV] using h
theorem rv_bl {b : Bool} {v : V} (h : RV K H ρ (.bl b) v) : v = .bl b := by simpa only [RV] using h
theorem rv_int {i : Int} {v : V} (h : RV K H ρ (.int i) v) : v = .int i := by simpa only [RV] using h
theorem rv_str {z : Str} {v : V} (h : RV K H ρ (.str z) v) : v = .str z := by simpa only [RV] using h
theorem rv_tup {ds : List D} {v : V} (h : RV K H ρ (.tup ds) v) : ∃ t vs, v = .ref t ∧ H t = some (.tup vs) ∧ RVs K H ρ ds vs := by simpa only [RV] using h
theorem rv_ktp {xs : List Str} {v : V} (h : RV K H ρ (.ktp xs) v) : ∃ a, v = .ref a ∧ KTup K a (xs.map V.str) := by simpa only [RV] using h
theorem rv_loc {n : Nat} {v : V} (h : RV K H ρ (.loc n) v) : ∃ a, ρ[n]? = some a ∧ v = .ref a := by simpa only [RV] using h
theorem rv_rol {xs : List Int} {v : V} (h : RV K H ρ (.rol xs) v) : ∃ a, v = .ref a ∧ FrzL K H a (xs.map V.int) := by simpa only [RV] using h
theorem of_non : RV K H ρ .non .non := by simp only [RV]
theorem of_bl {b : Bool} : RV K H ρ (.bl b) (.bl b) := by simp only [RV]
theorem of_int {i : Int} : RV K H ρ (.int i) (.int i) := by simp only [RV]
theorem of_str {z : Str} : RV K H ρ (.str z) (.str z) := by simp only [RV]
/-- the store's object that a value names -/
theorem rv_obj (R : RS CA K H ρ M) {n : Nat} {o : Ob} {v : V} (h : RV K H ρ (.loc n) v) (e : M[n]? = some o) : ∃ a u, v = .ref a ∧ ρ[n]? = some a ∧ H a = some u ∧ RO CA K H ρ o u := by
  obtain ⟨a, ea, rfl⟩ := rv_loc h
  obtain ⟨b, u, e1, e2, e3⟩ := R.at_ n o e
  rw [ea] at e1
  cases e1
  exact ⟨a, u, rfl, ea, e2, e3⟩
theorem rv_lst (R : RS CA K H ρ M) {n : Nat} {ds : List D} {v : V} (h : RV K H ρ (.loc n) v) (e : lstAt M n = some ds) : ∃ a vs, v = .ref a ∧ ρ[n]? = some a ∧ H a = some (.lst vs) ∧ RVs K H ρ ds vs := by
  obtain ⟨a, vs, e1, e2, r⟩ := R.lst e
  obtain ⟨b, eb, rfl⟩ := rv_loc h
  rw [e1] at eb
  cases eb
  exact ⟨a, vs, rfl, e1, e2, r⟩
theorem lstAt_of {n : Nat} {ds : List D} (e : M[n]? = some (.lst ds)) : lstAt M n = some ds := by
  unfold lstAt
  rw [e]
/-- a list or a tuple that is read -/
theorem rv_seq (R : RS CA K H ρ M) {x : D} {ds : List D} {v : V} (h : RV K H ρ x v) (e : seqOf M x = some ds) : ∃ a vs, v = .ref a ∧ (SqL K H a vs ∨ SqT K H a vs) ∧ RVs K H ρ ds vs := by
  cases x with
  | loc n =>
    obtain ⟨a, vs, rfl, _, e2, r⟩ := rv_lst R h e
    exact ⟨a, vs, rfl, .inl (SqL.of e2), r⟩
  | tup xs =>
    cases e
    obtain ⟨t, vs, rfl, e2, r⟩ := rv_tup h
    exact ⟨t, vs, rfl, .inr (SqT.of e2), r⟩
  | rol xs =>
    cases e
    obtain ⟨t, rfl, e2⟩ := rv_rol h
    exact ⟨t, _, rfl, .inl e2.sq, RVs.of_ints⟩
  | _ => cases e
/-- the data -/
theorem pysO_int (f : Nat → Option PyData) (xs : List Int) : pysO f (xs.map D.int) = some (xs.map PyData.int) := by
  induction xs with
  | nil => rfl
  | cons x r ih =>
    rw [List.map_cons]
    show (match pyO f (.int x), pysO f (r.map D.int) with | some x, some xs => some (x :: xs) | _, _ => none) = _
    rw [ih]
    rfl
theorem dpAll_ints : ∀ xs : List Int, DpAll K H (xs.map V.int) (xs.map PyData.int)
  | [] => .nil
  | x :: r => .cons (.int x) (dpAll_ints r)
mutual
theorem rv_dp (f : Nat → Option PyData) (hf : ∀ n p v, f n = some p → RV K H ρ (.loc n) v → Dp K H v p) : ∀ (x : D) (v : V) (p : PyData), RV K H ρ x v → pyO f x = some p → Dp K H v p
  | .non, v, p, h, e => by
    have := rv_non h; subst this
    simp only [pyO] at e; cases e
    exact .non
  | .bl b, v, p, h, e => by
    have := rv_bl h; subst this
    simp only [pyO] at e; cases e
    exact .bl b
  | .int i, v, p, h, e => by
    have := rv_int h; subst this
    simp only [pyO] at e; cases e
    exact .int i
  | .str z, v, p, h, e => by
    have := rv_str h; subst this
    simp only [pyO] at e; cases e
    exact .str z
  | .rol xs, v, p, h, e => by
    obtain ⟨a, rfl, q⟩ := rv_rol h
    simp only [pyO] at e; cases e
    exact .lst q.sq (dpAll_ints xs)
  | .loc n, v, p, h, e => by
    simp only [pyO] at e
    exact hf n p v e h
  | .ktp xs, v, p, h, e => by
    simp only [pyO] at e
    cases e
  | .tup ds, v, p, h, e => by
    obtain ⟨t, vs, rfl, q, r⟩ := rv_tup h
    simp only [pyO] at e
    cases w : pysO f ds with
    | none => rw [w] at e; cases e
    | some ps =>
      rw [w] at e
      cases e
      exact .tup (SqT.of q) (rvs_dp f hf ds vs ps r w)
theorem rvs_dp (f : Nat → Option PyData) (hf : ∀ n p v, f n = some p → RV K H ρ (.loc n) v → Dp K H v p) : ∀ (ds : List D) (vs : List V) (ps : List PyData), RVs K H ρ ds vs → pysO f ds = some ps → DpAll K H vs ps
  | [], vs, ps, h, e => by
    simp only [RVs] at h; subst h
    simp only [pysO] at e; cases e
    exact .nil
  | d :: ds, vs, ps, h, e => by
    simp only [RVs] at h
    obtain ⟨v, r, rfl, h1, h2⟩ := h
    simp only [pysO] at e
    cases w1 : pyO f d with
    | none => rw [w1] at e; cases e
    | some x =>
      cases w2 : pysO f ds with
      | none => rw [w1, w2] at e; cases e
      | some xs =>
        rw [w1, w2] at e
        cases e
        exact .cons (rv_dp f hf d v x h1 w1) (rvs_dp f hf ds r xs h2 w2)
end
theorem loD_dp (R : RS CA K H ρ M) : ∀ (k n : Nat) (p : PyData) (v : V), loD M k n = some p → RV K H ρ (.loc n) v → Dp K H v p
  | 0, _, _, _, e, _ => by cases e
  | k + 1, n, p, v, e, h => by
    simp only [loD] at e
    split at e
    · rename_i xs q
      obtain ⟨a, vs, rfl, _, e2, r⟩ := rv_lst R h (lstAt_of q)
      cases w : pysO (loD M k) xs with
      | none => rw [w] at e; cases e
      | some ps =>
        rw [w] at e
        cases e
        exact .lst (SqL.of e2) (rvs_dp (loD M k) (fun n p v => loD_dp R k n p v) xs vs ps r w)
    · cases e
theorem py_dp (R : RS CA K H ρ M) {x : D} {v : V} {p : PyData} (h : RV K H ρ x v) (e : py M x = some p) : Dp K H v p := rv_dp (loD M 4) (fun n p v => loD_dp R 4 n p v) x v p h e
end
/-! ### equality -/
theorem eqV_sc {x y : V} (h : scal x y = true) (f : flatV x = true) : decide (x = y) = eqV x y := by
  cases x with
  | non => cases y <;> first | rfl | exact decide_eq_false (fun z => by cases z) | cases h
  | bl b => cases y with
    | bl c => exact dec_bl
    | _ => first | exact decide_eq_false (fun z => by cases z) | cases h
  | int b => cases y with
    | int c => exact dec_int
    | _ => first | exact decide_eq_false (fun z => by cases z) | cases h
  | str b => cases y with
    | str c => exact dec_str
    | _ => first | exact decide_eq_false (fun z => by cases z) | cases h
  | _ => cases f
section
variable {CA : Nat → Addr} {K : PySem.W.Frag} {H : Hp} {ρ : List Addr} {M : Store} {X : Cx}
/-- scalars -/
theorem sc_v {x : D} {v : V} (h : RV K H ρ x v) (s : x.sc = true) : flatV v = true := by
  cases x with
  | non => rw [rv_non h]; rfl
  | bl b => rw [rv_bl h]; rfl
  | int i => rw [rv_int h]; rfl
  | str z => rw [rv_str h]; rfl
  | _ => cases s
theorem eqS_V {x y : D} {v w : V} (h : RV K H ρ x v) (h' : RV K H ρ y w) (s : x.sc = true) (s' : y.sc = true) : eqS x y = eqV v w := by
  cases x with
  | non =>
    rw [rv_non h]
    cases y with
    | non => rw [rv_non h']; rfl
    | bl b => rw [rv_bl h']; rfl
    | int i => rw [rv_int h']; rfl
    | str z => rw [rv_str h']; rfl
    | _ => cases s'
  | bl b =>
    rw [rv_bl h]
    cases y with
    | non => rw [rv_non h']; rfl
    | bl b => rw [rv_bl h']; rfl
    | int i => rw [rv_int h']; rfl
    | str z => rw [rv_str h']; rfl
    | _ => cases s'
  | int i =>
    rw [rv_int h]
    cases y with
    | non => rw [rv_non h']; rfl
    | bl b => rw [rv_bl h']; rfl
    | int i => rw [rv_int h']; rfl
    | str z => rw [rv_str h']; rfl
    | _ => cases s'
  | str z =>
    rw [rv_str h]
    cases y with
    | non => rw [rv_non h']; rfl
    | bl b => rw [rv_bl h']; rfl
    | int i => rw [rv_int h']; rfl
    | str z => rw [rv_str h']; rfl
    | _ => cases s'
  | _ => cases s
theorem eqE_ok (hu : X.A.units + 64 < cLine) (R : RS CA X.K H ρ M) {x y : D} {v w : V} {b : Bool} {Q : VK} (h : RV X.K H ρ x v) (h' : RV X.K H ρ y w) (e : eqE M x y = some b) :
    (Q (.bl b) H → TMO X (compareOp .Eq) v w H Q) ∧ (Q (.bl (!b)) H → TMO X (compareOp .NotEq) v w H Q) := by
  have data : ∀ d e', Dp X.K H v d → Dp X.K H w e' → SeqAt.shaped d = true → SeqAt.shaped e' = true → PyData.eqv d e' = b → (Q (.bl b) H → TMO X (compareOp .Eq) v w H Q) ∧ (Q (.bl (!b)) H → TMO X (compareOp .NotEq) v w H Q) :=
    fun d e' h1 h2 h3 h4 h5 => ⟨fun q => tm_op (op_eqD hu) ⟨d, e', h1, h2, h3, h4, by rw [h5]; exact q⟩, fun q => tm_op (op_neD hu) ⟨d, e', h1, h2, h3, h4, by rw [h5]; exact q⟩⟩
  unfold eqE at e
  split at e
  · rename_i c
    obtain ⟨c1, c2⟩ := Bool.and_eq_true_iff.mp c
    cases e
    rw [eqS_V h h' c1 c2]
    by_cases sc : scal v w = true
    · rw [← eqV_sc sc (sc_v h c1)]
      exact ⟨fun q => tm_op op_eq ⟨sc, q⟩, fun q => tm_op op_ne ⟨sc, q⟩⟩
    · cases x with
      | bl b1 =>
        have ev := rv_bl h; subst ev
        cases y with
        | int j =>
          have ew := rv_int h'; subst ew
          exact ⟨fun q => tm_op (op_eqD hu) ⟨.bool b1, .int j, .bl _, .int _, (by cases b1 <;> rfl), rfl, q⟩, fun q => tm_op (op_neD hu) ⟨.bool b1, .int j, .bl _, .int _, (by cases b1 <;> rfl), rfl, q⟩⟩
        | bl b2 => have ew := rv_bl h'; subst ew; exact absurd rfl sc
        | non => have ew := rv_non h'; subst ew; exact absurd rfl sc
        | str z => have ew := rv_str h'; subst ew; exact absurd rfl sc
        | _ => cases c2
      | int i =>
        have ev := rv_int h; subst ev
        cases y with
        | bl b2 =>
          have ew := rv_bl h'; subst ew
          exact ⟨fun q => tm_op (op_eqD hu) ⟨.int i, .bool b2, .int _, .bl _, rfl, (by cases b2 <;> rfl), q⟩, fun q => tm_op (op_neD hu) ⟨.int i, .bool b2, .int _, .bl _, rfl, (by cases b2 <;> rfl), q⟩⟩
        | int b2 => have ew := rv_int h'; subst ew; exact absurd rfl sc
        | non => have ew := rv_non h'; subst ew; exact absurd rfl sc
        | str z => have ew := rv_str h'; subst ew; exact absurd rfl sc
        | _ => cases c2
      | non =>
        have ev := rv_non h; subst ev
        cases y with
        | bl b2 => have ew := rv_bl h'; subst ew; exact absurd rfl sc
        | int b2 => have ew := rv_int h'; subst ew; exact absurd rfl sc
        | non => have ew := rv_non h'; subst ew; exact absurd rfl sc
        | str z => have ew := rv_str h'; subst ew; exact absurd rfl sc
        | _ => cases c2
      | str i =>
        have ev := rv_str h; subst ev
        cases y with
        | bl b2 => have ew := rv_bl h'; subst ew; exact absurd rfl sc
        | int b2 => have ew := rv_int h'; subst ew; exact absurd rfl sc
        | non => have ew := rv_non h'; subst ew; exact absurd rfl sc
        | str z => have ew := rv_str h'; subst ew; exact absurd rfl sc
        | _ => cases c2
      | _ => cases c1
  · split at e
    · rename_i d e' q1 q2
      split at e
      · rename_i c
        obtain ⟨c1, c2⟩ := Bool.and_eq_true_iff.mp c
        cases e
        exact data d e' (py_dp R h q1) (py_dp R h' q2) c1 c2 rfl
      · cases e
    · cases e
end
end Dv
end

section
set_option Elab.async false
set_option autoImplicit false
set_option linter.all false
set_option maxRecDepth 100000
set_option maxHeartbeats 2000000
/-! DvF: operators, comparisons, items, slices. -/
namespace Dv
open PySem L2
def opP : Op → Operator
  | .add => .Add | .sub => .Sub | .mul => .Mult | .fdiv => .FloorDiv | .mod => .Mod | .pow => .Pow
def coP : Co → CmpOp
  | .lt => .Lt | .le => .LtE | .gt => .Gt | .ge => .GtE | .eq => .Eq | .ne => .NotEq | .inn => .In | .nin => .NotIn | .iss => .Is | .isn => .IsNot
theorem fold_rep (a : Array Nat) : ∀ (k : Nat) (acc : Array Nat), (List.replicate k a).foldl (· ++ ·) acc = acc ++ (List.replicate k a.toList).flatten.toArray
  | 0, acc => by simp
  | k + 1, acc => by
    rw [List.replicate_succ, List.foldl_cons, fold_rep a k, List.replicate_succ, List.flatten_cons, Array.append_assoc]
    congr 1
    apply Array.ext'
    simp
theorem flat_nil (k : Nat) : (List.replicate k ([] : List Nat)).flatten = [] := by
  induction k with
  | zero => rfl
  | succ k ih => rw [List.replicate_succ, List.flatten_cons, ih]; rfl
theorem op_repS {X : Cx} : OpR X (binaryOp .Mult) (fun x y H Q => ∃ (a : Str) (n : Int), x = .str a ∧ y = .int n ∧ 0 ≤ n ∧ n ≤ 1000 ∧ a.length ≤ 1000 ∧ Q (.str (repS a n.toNat)) H) := by
  intro pins s σ H x y v u Q I rx ry h
  obtain ⟨a, n, rfl, rfl, h0, h1, h2, q⟩ := h
  obtain ⟨t, rfl⟩ := rx
  obtain ⟨t', rfl⟩ := ry
  have hm : a.length * n.toNat ≤ 1000 * 1000 := Nat.mul_le_mul h2 (by omega)
  have ht : Builtin.Str.tooLong (a.length * n.toNat) = false := by
    unfold Builtin.Str.tooLong
    rw [decide_eq_false]
    have := PySem.sizeLine_eq
    omega
  refine PySem.P.mul_str (by rw [decide_eq_false (by omega), decide_eq_false (by omega)]; rfl) (fun a1 _ => ?_) (fun _ _ => ht) ?_
  · have : (1000 : Int) ≤ (2 ^ 63 - 1) / n := by
      have : 1000 * n ≤ 2 ^ 63 - 1 := by omega
      exact (Int.le_ediv_iff_mul_le (by omega)).mpr this
    omega
  · by_cases c : n < 1
    · rw [if_pos c]
      refine ⟨by decide, .str (repS a n.toNat), H, I.tok _, ⟨s.toks, ?_⟩, q⟩
      have e : n.toNat = 0 := by omega
      rw [e]
      rfl
    · rw [if_neg c]
      by_cases c2 : (n == 1 || a.length == 0) = true
      · rw [if_pos c2]
        refine ⟨.str (repS a n.toNat), H, I, ⟨t, ?_⟩, q⟩
        rcases Bool.or_eq_true_iff.mp c2 with z | z
        · have e : n = 1 := by simpa using z
          subst e
          unfold repS
          simp
        · have e : a.cps.toList = [] := by
            have z' : a.cps.size = 0 := by simpa [Str.length] using z
            simpa using z'
          unfold repS
          rw [e, flat_nil]
          have e2 : a = ⟨#[]⟩ := by
            cases a with
            | mk c => congr 1; apply Array.ext'; exact e
          rw [e2]
      · rw [if_neg c2]
        refine ⟨?_, .str (repS a n.toNat), H, I.tok _, ⟨s.toks, ?_⟩, q⟩
        · rw [fold_rep]
          unfold Str.length
          have e : (List.replicate n.toNat a.cps.toList).flatten.length = n.toNat * a.length := by simp [Str.length]
          rw [Array.size_append]
          show 0 + (List.replicate n.toNat a.cps.toList).flatten.toArray.size ≤ sizeLine
          rw [Nat.zero_add, List.size_toArray, e, Nat.mul_comm]
          exact Nat.le_trans hm (by decide)
        · rw [fold_rep]
          simp [repS]
section
variable {CA : Nat → Addr} {H : Hp} {ρ : List Addr} {M : Store} {X : Cx} {W : WX} {σ : L2.St}
theorem binE_ok (o : Op) (R : RS CA X.K H ρ M) {x y : D} {v w : V} {Q : VK} (h : RV X.K H ρ x v) (h' : RV X.K H ρ y w) (p : Post CA X.K W σ H ρ (binE o M x y) (kV' X.K Q)) : TMO X (binaryOp (opP o)) v w H Q := by
  unfold binE at p
  split at p
  · have := rv_int h; have := rv_int h'; subst v w
    exact tm_op op_add ⟨_, _, rfl, rfl, p.here R _ of_int⟩
  · have := rv_str h; have := rv_str h'; subst v w
    obtain ⟨c, p⟩ := p.if_
    exact tm_op op_add_str ⟨_, _, rfl, rfl, c, p.here R _ of_str⟩
  · rename_i a b
    obtain ⟨t, vs, rfl, e1, r1⟩ := rv_tup h
    obtain ⟨t', vs', rfl, e2, r2⟩ := rv_tup h'
    obtain ⟨c, p⟩ := p.if_
    refine tm_op op_catA ⟨t, t', vs, vs', rfl, rfl, SqT.of e1, SqT.of e2, by rw [RVs.length r1, RVs.length r2]; exact c, fun z => ?_, fun _ z => ?_, fun _ _ q hq => p.tup R (RVs.app r1 r2) q hq⟩
    · subst z
      have ea : a = [] := by
        have := RVs.length r1
        exact List.eq_nil_of_length_eq_zero this.symm
      subst ea
      exact p.here R _ h'
    · subst z
      have eb : b = [] := by
        have := RVs.length r2
        exact List.eq_nil_of_length_eq_zero this.symm
      subst eb
      rw [List.append_nil] at p
      exact p.here R _ h
  · split at p
    · rename_i q1 q2
      obtain ⟨a, vs, rfl, _, e1, r1⟩ := rv_lst R h q1
      obtain ⟨b, ws, rfl, _, e2, r2⟩ := rv_lst R h' q2
      obtain ⟨c, p⟩ := p.if_
      refine tm_op op_cat ⟨a, b, vs, ws, rfl, rfl, e1, e2, by rw [RVs.length r1, RVs.length r2, ← List.length_append]; exact c, fun q hq => p.mk R ⟨_, rfl, RVs.app r1 r2⟩ q hq⟩
    · exact p.elim
  · have := rv_int h; have := rv_int h'; subst v w
    exact tm_op op_sub ⟨_, _, rfl, rfl, p.here R _ of_int⟩
  · have := rv_int h; have := rv_int h'; subst v w
    obtain ⟨c, p⟩ := p.if_
    rcases c with c | c | c
    · exact tm_op op_mul ⟨_, _, rfl, rfl, .inl (by omega), p.here R _ of_int⟩
    · exact tm_op op_mul ⟨_, _, rfl, rfl, .inr (by omega), p.here R _ of_int⟩
    · exact tm_op op_mulW ⟨_, _, rfl, rfl, c, p.here R _ of_int⟩
  · have := rv_str h; have := rv_int h'; subst v w
    obtain ⟨c, p⟩ := p.if_
    exact tm_op op_repS ⟨_, _, rfl, rfl, c.1, c.2.1, c.2.2, p.here R _ of_str⟩
  · have := rv_int h; have := rv_int h'; subst v w
    obtain ⟨c, p⟩ := p.if_
    exact tm_op op_fdivW ⟨_, _, rfl, rfl, wide_div (b := 64) c.1 (by omega) (by decide) (by decide), p.here R _ of_int⟩
  · have := rv_int h; have := rv_int h'; subst v w
    obtain ⟨c, p⟩ := p.if_
    exact tm_op op_mod ⟨_, _, rfl, rfl, c, p.here R _ of_int⟩
  · have := rv_int h; have := rv_int h'; subst v w
    obtain ⟨c, p⟩ := p.if_
    exact tm_op op_pow ⟨_, _, rfl, rfl, ⟨c.1, c.2.1, by omega⟩, p.here R _ of_int⟩
  · exact p.elim
/-- flat items -/
theorem flat_all : ∀ {ys : List D} {vs : List V}, RVs X.K H ρ ys vs → ys.all D.sc = true → vs.all flatV = true
  | [], vs, r, _ => by simp only [RVs] at r; subst r; rfl
  | y :: ys, vs, r, f => by
    simp only [RVs] at r
    obtain ⟨v, r', rfl, h1, h2⟩ := r
    obtain ⟨f1, f2⟩ := Bool.and_eq_true_iff.mp (show (y.sc && ys.all D.sc) = true from f)
    show (flatV v && r'.all flatV) = true
    rw [sc_v h1 f1, flat_all h2 f2]
    rfl
theorem inV_of {x : D} {v : V} (h : RV X.K H ρ x v) (s : x.sc = true) : ∀ {ys : List D} {vs : List V}, RVs X.K H ρ ys vs → ys.all D.sc = true → inV v vs = ys.any fun y => eqS y x
  | [], vs, r, _ => by simp only [RVs] at r; subst r; rfl
  | y :: ys, vs, r, f => by
    simp only [RVs] at r
    obtain ⟨w, r', rfl, h1, h2⟩ := r
    obtain ⟨f1, f2⟩ := Bool.and_eq_true_iff.mp (show (y.sc && ys.all D.sc) = true from f)
    show (eqV w v || inV v r') = (eqS y x || ys.any fun y => eqS y x)
    rw [eqS_V h1 h f1 s, inV_of h s h2 f2]
theorem find_map {κ : Type} [DecidableEq κ] : ∀ (kvs : List (κ × D)) (ws : List (κ × V)) (k : κ), ws.map (·.1) = kvs.map (·.1) → RVs X.K H ρ (kvs.map (·.2)) (ws.map (·.2)) →
    (∀ d, valK kvs k = some d → ∃ v, valV ws k = some v ∧ RV X.K H ρ d v) ∧ (valK kvs k = none → valV ws k = none)
  | [], [], _, _, _ => ⟨fun d e => (by cases e), fun _ => rfl⟩
  | [], _ :: _, _, e, _ => by cases e
  | _ :: _, [], _, e, _ => by cases e
  | (a, d) :: kvs, (b, v) :: ws, k, e, r => by
    simp only [List.map_cons, List.cons.injEq] at e
    obtain ⟨e1, e2⟩ := e
    subst e1
    simp only [List.map_cons, RVs] at r
    obtain ⟨v', r', er, h1, h2⟩ := r
    injection er with er1 er2
    subst er1 er2
    obtain ⟨i1, i2⟩ := find_map kvs ws k e2 h2
    unfold valK valV at i1 i2 ⊢
    by_cases c : b = k
    · rw [List.find?_cons_of_pos (by simpa using c), List.find?_cons_of_pos (by simpa using c)]
      exact ⟨fun x ex => (by cases ex; exact ⟨v, rfl, h1⟩), fun ex => (by cases ex)⟩
    · rw [List.find?_cons_of_neg (by simpa using c), List.find?_cons_of_neg (by simpa using c)]
      exact ⟨i1, i2⟩
theorem key_rv {x : D} {k : Key} {v : V} (h : RV X.K H ρ x v) (e : x.key? = some k) : v = kV k := by
  cases x with
  | int i => cases e; exact rv_int h
  | str z => cases e; exact rv_str h
  | _ => cases e
theorem keys_rv : ∀ {xs : List D} {ks : List Key} {vs : List V}, RVs X.K H ρ xs vs → keysOf xs = some ks → vs = ks.map kV
  | [], ks, vs, r, e => by
    simp only [RVs] at r; subst r
    simp only [keysOf] at e; cases e
    rfl
  | x :: xs, ks, vs, r, e => by
    simp only [RVs] at r
    obtain ⟨v, r', rfl, h1, h2⟩ := r
    simp only [keysOf] at e
    cases q1 : x.key? with
    | none => rw [q1] at e; cases e
    | some k =>
      cases q2 : keysOf xs with
      | none => rw [q1, q2] at e; cases e
      | some ks' =>
        rw [q1, q2] at e
        cases e
        rw [key_rv h1 q1, keys_rv h2 q2]
        rfl
theorem inE_ok (hu : X.A.units + 65 < cLine) (R : RS CA X.K H ρ M) {x y : D} {v w : V} {b : Bool} {Q : VK} (h : RV X.K H ρ x v) (h' : RV X.K H ρ y w) (e : inE M x y = some b) :
    (Q (.bl b) H → TMO X (compareOp .In) v w H Q) ∧ (Q (.bl (!b)) H → TMO X (compareOp .NotIn) v w H Q) := by
  unfold inE at e
  split at e
  · split at e
    · rename_i a
      split at e
      · rename_i c ec
        have := rv_str h; have := rv_str h'; subst v w
        have ea : a = ⟨#[c]⟩ := by
          cases a with
          | mk l => congr 1; apply Array.ext'; exact ec
        subst ea
        cases e
        exact ⟨fun q => tm_op op_in_sign ⟨_, _, rfl, rfl, q⟩, fun q => tm_op op_notIn_sign ⟨_, _, rfl, rfl, q⟩⟩
      · cases e
    · cases e
  · split at e
    · rename_i ys q0
      obtain ⟨a, vs, rfl, _, e2, r⟩ := rv_lst R h' (lstAt_of q0)
      split at e
      · rename_i c
        obtain ⟨c1, c2⟩ := Bool.and_eq_true_iff.mp c
        cases e
        refine ⟨fun q => tm_op op_in_seq ⟨a, vs, rfl, .inl (SqL.of e2), sc_v h c1, flat_all r c2, ?_⟩, fun q => tm_op op_notIn_seq ⟨a, vs, rfl, .inl (SqL.of e2), sc_v h c1, flat_all r c2, ?_⟩⟩
        · rw [if_neg Bool.false_ne_true, inV_of h c1 r c2]; exact q
        · rw [if_pos rfl, inV_of h c1 r c2]; exact q
      · split at e
        · rename_i d ds q1 q2
          split at e
          · rename_i c
            obtain ⟨c1, c2⟩ := Bool.and_eq_true_iff.mp c
            cases e
            exact ⟨fun q => tm_op (op_inD hu) ⟨d, ds, py_dp R h q1, py_dp R h' q2, c1, c2, q⟩, fun q => tm_op (op_notInD hu) ⟨d, ds, py_dp R h q1, py_dp R h' q2, c1, c2, q⟩⟩
          · cases e
        · cases e
    · rename_i kvs q0
      obtain ⟨a, u, rfl, _, e2, ws, rfl, ek, r⟩ := rv_obj R h' q0
      split at e
      · rename_i k qk
        cases e
        have ev := key_rv h qk
        subst ev
        obtain ⟨i1, i2⟩ := find_map (X := X) kvs ws k ek r
        have g : DGet H a (L2.kV k) (valV ws k) := DGet.k e2
        have eb : (valV ws k).isSome = (valK kvs k).isSome := by
          cases q : valK kvs k with
          | none => rw [i2 q]; rfl
          | some d => obtain ⟨v, hv, _⟩ := i1 d q; rw [hv]; rfl
        refine ⟨fun q pins s σ v u I rx ry => ?_, fun q pins s σ v u I rx ry => ?_⟩
        · obtain rfl : u = Value.ref a := ry
          exact d_in (by omega) I g rx fun s' I' => ⟨.bl (valV ws k).isSome, H, I', rfl, by rw [eb]; exact q⟩
        · obtain rfl : u = Value.ref a := ry
          exact d_notIn (by omega) I g rx fun s' I' => ⟨.bl (!(valV ws k).isSome), H, I', rfl, by rw [eb]; exact q⟩
      · cases e
    · cases e
  · split at e
    · rename_i c
      obtain ⟨a, vs, rfl, e2, r⟩ := rv_tup h'
      obtain ⟨c1, c2⟩ := Bool.and_eq_true_iff.mp c
      cases e
      refine ⟨fun q => tm_op op_in_seq ⟨a, vs, rfl, .inr (SqT.of e2), sc_v h c1, flat_all r c2, ?_⟩, fun q => tm_op op_notIn_seq ⟨a, vs, rfl, .inr (SqT.of e2), sc_v h c1, flat_all r c2, ?_⟩⟩
      · rw [if_neg Bool.false_ne_true, inV_of h c1 r c2]; exact q
      · rw [if_pos rfl, inV_of h c1 r c2]; exact q
    · cases e
  · rename_i ys
    split at e
    · rename_i c1
      obtain ⟨a, rfl, e2⟩ := rv_ktp h'
      cases e
      have r : RVs X.K H ρ (ys.map D.str) (ys.map V.str) := RVs.of_strs
      have c2 : (ys.map D.str).all D.sc = true := by simp [D.sc]
      have e3 : inV v (ys.map V.str) = ys.any fun y => eqS (.str y) x := by
        rw [inV_of h c1 r c2, List.any_map]
        rfl
      refine ⟨fun q => tm_op op_in_seq ⟨a, _, rfl, .inr (.inr e2), sc_v h c1, flat_all r c2, ?_⟩, fun q => tm_op op_notIn_seq ⟨a, _, rfl, .inr (.inr e2), sc_v h c1, flat_all r c2, ?_⟩⟩
      · rw [if_neg Bool.false_ne_true, e3]; exact q
      · rw [if_pos rfl, e3]; exact q
    · cases e
  · cases e
theorem cmpE_ok (o : Co) (hu : X.A.units + 65 < cLine) (R : RS CA X.K H ρ M) {x y : D} {v w : V} {b : Bool} {Q : VK} (h : RV X.K H ρ x v) (h' : RV X.K H ρ y w) (e : cmpE o M x y = some b) (q : Q (.bl b) H) : TMO X (compareOp (coP o)) v w H Q := by
  cases o with
  | lt =>
    simp only [cmpE] at e
    split at e
    · have := rv_int h; have := rv_int h'; subst v w; cases e
      exact tm_op op_lt ⟨_, _, rfl, rfl, q⟩
    · cases e
  | le =>
    simp only [cmpE] at e
    split at e
    · have := rv_int h; have := rv_int h'; subst v w; cases e
      exact tm_op op_le ⟨_, _, rfl, rfl, q⟩
    · cases e
  | gt =>
    simp only [cmpE] at e
    split at e
    · have := rv_int h; have := rv_int h'; subst v w; cases e
      exact tm_op op_gt ⟨_, _, rfl, rfl, q⟩
    · cases e
  | ge =>
    simp only [cmpE] at e
    split at e
    · have := rv_int h; have := rv_int h'; subst v w; cases e
      exact tm_op op_ge ⟨_, _, rfl, rfl, q⟩
    · cases e
  | eq => exact (eqE_ok (by omega) R h h' e).1 q
  | ne =>
    simp only [cmpE] at e
    cases z : eqE M x y with
    | none => rw [z] at e; cases e
    | some c =>
      rw [z] at e
      cases e
      exact (eqE_ok (by omega) R h h' z).2 q
  | inn => exact (inE_ok hu R h h' e).1 q
  | nin =>
    simp only [cmpE] at e
    cases z : inE M x y with
    | none => rw [z] at e; cases e
    | some c =>
      rw [z] at e
      cases e
      exact (inE_ok hu R h h' z).2 q
  | iss =>
    simp only [cmpE] at e
    split at e
    · have ew := rv_non h'; subst ew
      cases e
      refine tm_op op_isN ⟨rfl, ?_⟩
      cases x with
      | non => rw [rv_non h]; exact q
      | bl b => rw [rv_bl h]; exact q
      | int b => rw [rv_int h]; exact q
      | str b => rw [rv_str h]; exact q
      | tup b => obtain ⟨t, vs, rfl, _⟩ := rv_tup h; exact q
      | ktp b => obtain ⟨t, rfl, _⟩ := rv_ktp h; exact q
      | loc b => obtain ⟨t, _, rfl⟩ := rv_loc h; exact q
      | rol b => obtain ⟨t, rfl, _⟩ := rv_rol h; exact q
    · cases e
  | isn =>
    simp only [cmpE] at e
    split at e
    · have ew := rv_non h'; subst ew
      cases e
      refine tm_op op_notN ⟨rfl, ?_⟩
      cases x with
      | non => rw [rv_non h]; exact q
      | bl b => rw [rv_bl h]; exact q
      | int b => rw [rv_int h]; exact q
      | str b => rw [rv_str h]; exact q
      | tup b => obtain ⟨t, vs, rfl, _⟩ := rv_tup h; exact q
      | ktp b => obtain ⟨t, rfl, _⟩ := rv_ktp h; exact q
      | loc b => obtain ⟨t, _, rfl⟩ := rv_loc h; exact q
      | rol b => obtain ⟨t, rfl, _⟩ := rv_rol h; exact q
    · cases e
theorem atI_rv {xs : List D} {vs : List V} {i : Int} {d : D} (r : RVs X.K H ρ xs vs) (e : atI xs i = some d) : ∃ v, atI vs i = some v ∧ RV X.K H ρ d v := by
  unfold atI at e ⊢
  rw [RVs.length r]
  cases q : ixN xs.length i with
  | none => rw [q] at e; cases e
  | some j =>
    rw [q] at e
    exact RVs.get r e
theorem idxE_ok {a b : Expr} (hs : PlainIx b) (hu : X.A.units + 1 < cLine) (R : RS CA X.K H ρ M) {x y d : D} {v w : V} {Q : VK} (h : RV X.K H ρ x v) (h' : RV X.K H ρ y w) (e : idxE M x y = some d) (q : ∀ z, RV X.K H ρ d z → Q z H) : TMG X a b v w H Q := by
  unfold idxE at e
  split at e
  · rename_i z
    split at e
    · rename_i i
      split at e
      · rename_i c
        have := rv_str h; have := rv_int h'; subst v w
        cases z2 : atI z.cps.toList i with
        | none => rw [z2] at e; cases e
        | some k =>
          rw [z2] at e
          cases e
          exact tm_ix ix_str hs ⟨z, i, k, rfl, rfl, c, z2, q _ of_str⟩
      · cases e
    · cases e
  · split at e
    · obtain ⟨t, vs, rfl, e2, r⟩ := rv_tup h
      have := rv_int h'; subst w
      obtain ⟨u, e3, r3⟩ := atI_rv r e
      exact tm_ix ix_tup hs ⟨t, vs, _, u, rfl, rfl, SqT.of e2, e3, q _ r3⟩
    · cases e
  · rename_i xs
    split at e
    · rename_i i
      obtain ⟨t, rfl, e2⟩ := rv_rol h
      have := rv_int h'; subst w
      have e' : atI (xs.map D.int) i = some d := by
        unfold atI at e ⊢
        rw [List.length_map]
        cases q : ixN xs.length i with
        | none => rw [q] at e; cases e
        | some j =>
          rw [q] at e
          show (xs.map D.int)[j]? = some d
          rw [List.getElem?_map]
          exact e
      obtain ⟨u, e3, r3⟩ := atI_rv (X := X) (H := H) (ρ := ρ) RVs.of_ints e'
      exact tm_ix ix_list hs ⟨t, _, _, u, rfl, rfl, e2.sq, e3, q _ r3⟩
    · cases e
  · split at e
    · rename_i q0
      split at e
      · obtain ⟨t, vs, rfl, _, e2, r⟩ := rv_lst R h (lstAt_of q0)
        have := rv_int h'; subst w
        obtain ⟨u, e3, r3⟩ := atI_rv r e
        exact tm_ix ix_list hs ⟨t, vs, _, u, rfl, rfl, SqL.of e2, e3, q _ r3⟩
      · cases e
    · rename_i kvs q0
      obtain ⟨t, u, rfl, _, e2, ws, rfl, ek, r⟩ := rv_obj R h q0
      split at e
      · rename_i k qk
        have ev := key_rv h' qk
        subst ev
        obtain ⟨z, e3, r3⟩ := (find_map (X := X) kvs ws k ek r).1 d e
        exact tm_dix hu hs ⟨t, z, rfl, by rw [← e3]; exact DGet.k e2, q _ r3⟩
      · cases e
    · rename_i kvs q0
      obtain ⟨t, u, rfl, _, e2, ws, rfl, ek, r⟩ := rv_obj R h q0
      split at e
      · split at e
        · rename_i ks ksd k qk
          obtain ⟨t', vs', rfl, e4, r4⟩ := rv_tup h'
          have ev := keys_rv r4 qk
          subst ev
          obtain ⟨z, e3, r3⟩ := (find_map (X := X) kvs ws k ek r).1 d e
          exact tm_dix hu hs ⟨t, z, rfl, by rw [← e3]; exact DGet.t e2 e4, q _ r3⟩
        · cases e
      · cases e
    · cases e
  · cases e
end
end Dv
end

section
set_option Elab.async false
set_option autoImplicit false
set_option linter.all false
set_option maxRecDepth 100000
set_option maxHeartbeats 2000000
/-! DvG: truth, slices, built-in functions and methods. -/
namespace Dv
open PySem L2
section
variable {CA : Nat → Addr} {H : Hp} {ρ : List Addr} {M : Store} {X : Cx} {W : WX} {σ : L2.St}
theorem isEmpty_rvs {xs : List D} {vs : List V} (r : RVs X.K H ρ xs vs) : xs.isEmpty = vs.isEmpty := by
  cases xs with
  | nil => simp only [RVs] at r; subst r; rfl
  | cons x xs => simp only [RVs] at r; obtain ⟨v, r', rfl, _⟩ := r; rfl
theorem truD_ok (R : RS CA X.K H ρ M) {x : D} {v : V} {b : Bool} (h : RV X.K H ρ x v) (e : truD M x = some b) : TruV X.K v H b := by
  unfold truD at e
  split at e
  · rw [rv_non h]; cases e; rfl
  · rw [rv_bl h]; cases e; rfl
  · rw [rv_int h]; cases e; rfl
  · rename_i s
    split at e
    · rename_i c
      rw [rv_str h]; cases e
      refine ⟨c, ?_⟩
      cases q : s.length with
      | zero => rfl
      | succ n =>
        have : ((n + 1 : Nat) : Int) ≠ 0 := by omega
        rw [bne_iff_ne.mpr this]
        rfl
    · cases e
  · obtain ⟨t, vs, rfl, e2, r⟩ := rv_tup h
    cases e
    exact .inr (.inl ⟨vs, SqT.of e2, by rw [isEmpty_rvs r]⟩)
  · obtain ⟨t, rfl, e2⟩ := rv_rol h
    cases e
    refine .inl ⟨_, e2.sq, ?_⟩
    simp
  · cases e
  · split at e
    · rename_i q
      obtain ⟨t, vs, rfl, _, e2, r⟩ := rv_lst R h (lstAt_of q)
      cases e
      exact .inl ⟨vs, SqL.of e2, by rw [isEmpty_rvs r]⟩
    · rename_i kvs q
      obtain ⟨t, u, rfl, _, e2, ws, rfl, ek, r⟩ := rv_obj R h q
      cases e
      refine .inr (.inr ⟨ws, e2, ?_⟩)
      have hl : ws.length = kvs.length := by
        have := congrArg List.length ek
        simpa using this
      cases kvs with
      | nil => cases ws with
        | nil => rfl
        | cons _ _ => cases hl
      | cons _ _ => cases ws with
        | nil => cases hl
        | cons _ _ => rfl
    · cases e
/-- slices -/
theorem cut_rv {xs : List D} {vs : List V} (lo hi : Option Int) (r : RVs X.K H ρ xs vs) : RVs X.K H ρ (cutD xs lo hi) (cutV vs lo hi) := by
  unfold cutD cutV
  rw [RVs.length r]
  exact RVs.take _ (RVs.drop _ r)
theorem cut_all {xs : List D} {lo hi : Option Int} (h1 : HT.sIx xs.length 0 lo = 0) (h2 : HT.sIx xs.length xs.length hi = xs.length) : cutD xs lo hi = xs := by
  unfold cutD
  rw [h1, h2, List.drop_zero, Nat.sub_zero, List.take_length]
def TSl (X : Cx) (x : V) (lo hi : Option Int) (H : Hp) (Q : VK) : Prop := ∀ (pins : List (Addr × Obj)) (s : Shared) (σ : L2.St) (v vl vu : Value) (sl : Addr), Inv X pins σ H s → RelV x v → s.heap.IsSliceOf sl vl vu .none → IsPart vl lo → IsPart vu hi →
    ∃ T id, typeLookup (.type T) "__getitem__" = pure (some (.builtin id)) ∧ s.TypeIs v T ∧ wpAny (model X.prog X.w) X.A (getItem v (.ref sl)) (EP X pins σ Q) X.xe s
theorem sl_tm : SlR X (fun x lo hi H Q => TSl X x lo hi H Q) := fun pins s σ H x v vl vu lo hi sl Q I rx hs pl pu h => h pins s σ v vl vu sl I rx hs pl pu
theorem tm_sl {r : V → Option Int → Option Int → Hp → VK → Prop} {x : V} {lo hi : Option Int} {Q : VK} (h : SlR X r) (q : r x lo hi H Q) : TSl X x lo hi H Q := fun pins s σ v vl vu sl I rx hs pl pu => h pins s σ H x v vl vu lo hi sl Q I rx hs pl pu q
theorem slcE_ok (R : RS CA X.K H ρ M) {x : D} {v : V} {lo hi : Option Int} {Q : VK} (h : RV X.K H ρ x v) (p : Post CA X.K W σ H ρ (slcE M x lo hi) (kV' X.K Q)) : TSl X v lo hi H Q := by
  unfold slcE at p
  split at p
  · have := rv_str h; subst v
    obtain ⟨c, p⟩ := p.if_
    exact tm_sl sl_str ⟨_, rfl, c, p.here R _ of_str⟩
  · rename_i xs
    obtain ⟨t, vs, rfl, e2, r⟩ := rv_tup h
    have hl := RVs.length r
    refine tm_sl sl_tupA ⟨t, vs, rfl, SqT.of e2, fun hw => ?_, fun _ q hq => p.tup R (cut_rv lo hi r) q hq⟩
    rw [hl] at hw
    rw [cut_all hw.1 hw.2] at p
    exact p.here R _ h
  · split at p
    · rename_i q0
      obtain ⟨t, vs, rfl, _, e2, r⟩ := rv_lst R h q0
      exact tm_sl sl_list ⟨t, vs, rfl, SqL.of e2, fun q hq => p.mk R ⟨_, rfl, cut_rv lo hi r⟩ q hq⟩
    · exact p.elim
  · exact p.elim
/-! sorted -/
theorem insI_perm (i : Int) : ∀ l : List Int, (insI i l).Perm (i :: l)
  | [] => List.Perm.refl _
  | j :: r => by
    unfold insI
    split
    · exact List.Perm.refl _
    · exact ((insI_perm i r).cons j).trans (List.Perm.swap i j r)
theorem sortI_perm : ∀ l : List Int, (sortI l).Perm l
  | [] => List.Perm.refl _
  | i :: r => (insI_perm i (sortI r)).trans ((sortI_perm r).cons i)
theorem insI_sorted (i : Int) : ∀ l : List Int, l.Pairwise (· ≤ ·) → (insI i l).Pairwise (· ≤ ·)
  | [], _ => List.pairwise_singleton _ _
  | j :: r, h => by
    unfold insI
    obtain ⟨h1, h2⟩ := List.pairwise_cons.mp h
    split
    · rename_i c
      refine List.pairwise_cons.mpr ⟨fun x hx => ?_, h⟩
      rcases List.mem_cons.mp hx with rfl | hx
      · exact c
      · exact Int.le_trans c (h1 x hx)
    · rename_i c
      refine List.pairwise_cons.mpr ⟨fun x hx => ?_, insI_sorted i r h2⟩
      rcases List.mem_cons.mp ((insI_perm i r).mem_iff.mp hx) with rfl | hx
      · omega
      · exact h1 x hx
theorem sortI_sorted : ∀ l : List Int, (sortI l).Pairwise (· ≤ ·)
  | [] => List.Pairwise.nil
  | i :: r => insI_sorted i _ (sortI_sorted r)
theorem sortI_uniq {l m : List Int} (p : m.Perm l) (s : m.Pairwise (· ≤ ·)) : m = sortI l :=
  (p.trans (sortI_perm l).symm).eq_of_pairwise (fun a b _ _ h1 h2 => Int.le_antisymm h1 h2) s (sortI_sorted l)
def LeP (a b : Int × Int) : Prop := a.1 < b.1 ∨ (a.1 = b.1 ∧ a.2 ≤ b.2)
theorem leP_iff {a b : Int × Int} : leP a b = true ↔ LeP a b := by
  unfold leP LeP
  simp
theorem insP_perm (i : Int × Int) : ∀ l : List (Int × Int), (insP i l).Perm (i :: l)
  | [] => List.Perm.refl _
  | j :: r => by
    unfold insP
    split
    · exact List.Perm.refl _
    · exact ((insP_perm i r).cons j).trans (List.Perm.swap i j r)
theorem sortP_perm : ∀ l : List (Int × Int), (sortP l).Perm l
  | [] => List.Perm.refl _
  | i :: r => (insP_perm i (sortP r)).trans ((sortP_perm r).cons i)
theorem insP_sorted (i : Int × Int) : ∀ l : List (Int × Int), l.Pairwise LeP → (insP i l).Pairwise LeP
  | [], _ => List.pairwise_singleton _ _
  | j :: r, h => by
    unfold insP
    obtain ⟨h1, h2⟩ := List.pairwise_cons.mp h
    split
    · rename_i c
      have c := leP_iff.mp c
      refine List.pairwise_cons.mpr ⟨fun x hx => ?_, h⟩
      rcases List.mem_cons.mp hx with rfl | hx
      · exact c
      · have := h1 x hx
        unfold LeP at *
        omega
    · rename_i c
      have c : ¬ LeP i j := fun z => c (leP_iff.mpr z)
      refine List.pairwise_cons.mpr ⟨fun x hx => ?_, insP_sorted i r h2⟩
      rcases List.mem_cons.mp ((insP_perm i r).mem_iff.mp hx) with rfl | hx
      · unfold LeP at *
        omega
      · exact h1 x hx
theorem sortP_sorted : ∀ l : List (Int × Int), (sortP l).Pairwise LeP
  | [] => List.Pairwise.nil
  | i :: r => insP_sorted i _ (sortP_sorted r)
theorem sortP_uniq {l m : List (Int × Int)} (p : m.Perm l) (s : m.Pairwise LeP) : m = sortP l :=
  (p.trans (sortP_perm l).symm).eq_of_pairwise (fun a b _ _ h1 h2 => by
    unfold LeP at h1 h2
    ext <;> omega) s (sortP_sorted l)
theorem pairsOf_eq : ∀ {ds : List D} {ps : List (Int × Int)}, pairsOf ds = some ps → ds = ps.map pairD
  | [], ps, h => by simp only [pairsOf] at h; cases h; rfl
  | d :: r, ps, h => by
    unfold pairsOf at h
    split at h
    · rename_i e
      cases e
    · rename_i e
      cases e
      cases q : pairsOf r with
      | none => rw [q] at h; cases h
      | some js =>
        rw [q] at h
        cases h
        rw [pairsOf_eq q]
        rfl
    · cases h
theorem pair_rv {p : Int × Int} {v : V} (h : RV X.K H ρ (pairD p) v) : ∃ t, v = .ref t ∧ H t = some (.tup [.int p.1, .int p.2]) := by
  obtain ⟨t, vs, rfl, e, r⟩ := rv_tup h
  simp only [RVs] at r
  obtain ⟨a, r', rfl, ha, b, r'', rfl, hb, rfl⟩ := r
  rw [rv_int ha, rv_int hb] at e
  exact ⟨t, rfl, e⟩
def keyP (H : Hp) (v : V) : Int × Int := match v with
  | .ref t => match H t with
    | some (.tup [.int i, .int j]) => (i, j)
    | _ => (0, 0)
  | _ => (0, 0)
theorem keyP_of {t : Addr} {i j : Int} (e : H t = some (.tup [.int i, .int j])) : keyP H (.ref t) = (i, j) := by
  show (match H t with
    | some (.tup [.int i, .int j]) => (i, j)
    | _ => ((0 : Int), (0 : Int))) = (i, j)
  rw [e]
theorem pairs_rv : ∀ {ps : List (Int × Int)} {vs : List V}, RVs X.K H ρ (ps.map pairD) vs → (∀ x ∈ vs, ∃ t, x = V.ref t ∧ H t = some (.tup [.int (keyP H x).1, .int (keyP H x).2])) ∧ vs.map (keyP H) = ps
  | [], vs, r => by simp only [List.map_nil, RVs] at r; subst r; exact ⟨fun x hx => (by cases hx), rfl⟩
  | p :: ps, vs, r => by
    simp only [List.map_cons, RVs] at r
    obtain ⟨v, r', rfl, h1, h2⟩ := r
    obtain ⟨i1, i2⟩ := pairs_rv h2
    obtain ⟨t, rfl, e⟩ := pair_rv h1
    have ek : keyP H (.ref t) = p := keyP_of e
    refine ⟨fun x hx => ?_, by rw [List.map_cons, ek, i2]⟩
    rcases List.mem_cons.mp hx with rfl | hx
    · exact ⟨t, rfl, by rw [ek]; exact e⟩
    · exact i1 x hx
theorem rv_pairs : ∀ {vs : List V}, (∀ x ∈ vs, ∃ t, x = V.ref t ∧ H t = some (.tup [.int (keyP H x).1, .int (keyP H x).2])) → RVs X.K H ρ ((vs.map (keyP H)).map pairD) vs
  | [], _ => RVs.nil
  | v :: vs, h => by
    obtain ⟨t, rfl, e⟩ := h v List.mem_cons_self
    refine RVs.cons ?_ (rv_pairs fun x hx => h x (List.mem_cons_of_mem _ hx))
    unfold pairD
    simp only [RV]
    exact ⟨t, _, rfl, e, RVs.cons of_int (RVs.cons of_int RVs.nil)⟩
theorem maxI_is : ∀ {is : List Int} {m k : Int}, maxI is = some k → m ∈ is → (∀ y, y ∈ is → y ≤ m) → m = k
  | [], _, _, e, _, _ => by cases e
  | i :: r, m, k, e, hm, hle => by
    unfold maxI at e
    have key : ∀ {r : List Int} {z : Int}, maxI r = some z → z ∈ r ∧ ∀ y, y ∈ r → y ≤ z := by
      intro r
      induction r with
      | nil => intro z e; cases e
      | cons a r ih =>
        intro z e
        unfold maxI at e
        split at e
        · rename_i q
          cases e
          cases r with
          | nil => exact ⟨List.mem_cons_self, fun y hy => by simp at hy; omega⟩
          | cons b r =>
            unfold maxI at q
            split at q <;> cases q
        · rename_i u q
          cases e
          obtain ⟨h1, h2⟩ := ih q
          by_cases c : u > a
          · rw [if_pos c]
            exact ⟨List.mem_cons_of_mem _ h1, fun y hy => by
              rcases List.mem_cons.mp hy with rfl | hy
              · omega
              · exact h2 y hy⟩
          · rw [if_neg c]
            exact ⟨List.mem_cons_self, fun y hy => by
              rcases List.mem_cons.mp hy with rfl | hy
              · omega
              · have := h2 y hy; omega⟩
    have e' : maxI (i :: r) = some k := by unfold maxI; exact e
    obtain ⟨h1, h2⟩ := key e'
    have a := hle k h1
    have b := h2 m hm
    omega
theorem minI_is : ∀ {is : List Int} {m k : Int}, minI is = some k → m ∈ is → (∀ y, y ∈ is → m ≤ y) → m = k
  | [], _, _, e, _, _ => by cases e
  | i :: r, m, k, e, hm, hle => by
    have key : ∀ {r : List Int} {z : Int}, minI r = some z → z ∈ r ∧ ∀ y, y ∈ r → z ≤ y := by
      intro r
      induction r with
      | nil => intro z e; cases e
      | cons a r ih =>
        intro z e
        unfold minI at e
        split at e
        · rename_i q
          cases e
          cases r with
          | nil => exact ⟨List.mem_cons_self, fun y hy => by simp at hy; omega⟩
          | cons b r =>
            unfold minI at q
            split at q <;> cases q
        · rename_i u q
          cases e
          obtain ⟨h1, h2⟩ := ih q
          by_cases c : u < a
          · rw [if_pos c]
            exact ⟨List.mem_cons_of_mem _ h1, fun y hy => by
              rcases List.mem_cons.mp hy with rfl | hy
              · omega
              · exact h2 y hy⟩
          · rw [if_neg c]
            exact ⟨List.mem_cons_self, fun y hy => by
              rcases List.mem_cons.mp hy with rfl | hy
              · omega
              · have := h2 y hy; omega⟩
    obtain ⟨h1, h2⟩ := key e
    have a := hle k h1
    have b := h2 m hm
    omega
theorem maxI_pos {is : List Int} {k : Int} (e : maxI is = some k) : 0 < is.length := by
  cases is with
  | nil => cases e
  | cons _ _ => exact Nat.succ_pos _
theorem minI_pos {is : List Int} {k : Int} (e : minI is = some k) : 0 < is.length := by
  cases is with
  | nil => cases e
  | cons _ _ => exact Nat.succ_pos _
/-! built-in functions -/
def biV : Bi → Value
  | .len => .builtin "len" | .int => .type "int" | .abs => .builtin "abs" | .min => .builtin "min" | .max => .builtin "max" | .sum => .builtin "sum"
  | .str => .type "str" | .list => .type "list" | .tuple => .type "tuple" | .sorted => .builtin "sorted"
theorem rvs1 {x : D} {vs : List V} (r : RVs X.K H ρ [x] vs) : ∃ v, vs = [v] ∧ RV X.K H ρ x v := by
  simp only [RVs] at r
  obtain ⟨v, r', rfl, h1, rfl⟩ := r
  exact ⟨v, rfl, h1⟩
theorem rvs2 {x y : D} {vs : List V} (r : RVs X.K H ρ [x, y] vs) : ∃ v w, vs = [v, w] ∧ RV X.K H ρ x v ∧ RV X.K H ρ y w := by
  simp only [RVs] at r
  obtain ⟨v, r', rfl, h1, w, r'', rfl, h2, rfl⟩ := r
  exact ⟨v, w, rfl, h1, h2⟩
theorem biE_ok (b : Bi) (hc : X.calm = true) (R : RS CA X.K H ρ M) {xs : List D} {vs : List V} {Q : VK} (r : RVs X.K H ρ xs vs) (p : Post CA X.K W σ H ρ (biE b M xs) (kV' X.K Q)) : TMC X (biV b) vs H Q := by
  unfold biE at p
  split at p
  · obtain ⟨v, rfl, h⟩ := rvs1 r
    have := rv_str h; subst v
    obtain ⟨c, p⟩ := p.if_
    exact tm_call call_len ⟨_, _, rfl, ⟨c, rfl⟩, p.here R _ of_int⟩
  · obtain ⟨v, rfl, h⟩ := rvs1 r
    split at p
    · rename_i q0
      obtain ⟨a, ws, rfl, e2, rr⟩ := rv_seq R h q0
      have p := p.here R _ of_int
      rw [← RVs.length rr] at p
      refine tm_call call_len ⟨_, _, rfl, ?_, p⟩
      rcases e2 with e2 | e2
      · exact .inl ⟨ws, e2, rfl⟩
      · exact .inr ⟨ws, e2, rfl⟩
    · exact p.elim
  · obtain ⟨v, rfl, h⟩ := rvs1 r
    have := rv_int h; subst v
    exact tm_call call_int1 (.inl ⟨_, rfl, p.here R _ of_int⟩)
  · obtain ⟨v, rfl, h⟩ := rvs1 r
    have := rv_bl h; subst v
    exact tm_call call_int1 (.inr ⟨_, rfl, p.here R _ of_int⟩)
  · obtain ⟨v, rfl, h⟩ := rvs1 r
    have := rv_str h; subst v
    split at p
    · rename_i n q0
      obtain ⟨c, p⟩ := p.if_
      exact tm_call call_int_str ⟨_, n, rfl, q0, c, p.here R _ of_int⟩
    · exact p.elim
  · obtain ⟨v, rfl, h⟩ := rvs1 r
    have := rv_int h; subst v
    exact tm_call call_abs ⟨_, rfl, p.here R _ of_int⟩
  · obtain ⟨v, w, rfl, h, h'⟩ := rvs2 r
    have := rv_int h; have := rv_int h'; subst v w
    exact tm_call (call_min2 hc) ⟨_, _, rfl, p.here R _ of_int⟩
  · obtain ⟨v, w, rfl, h, h'⟩ := rvs2 r
    have := rv_int h; have := rv_int h'; subst v w
    exact tm_call (call_max2 hc) ⟨_, _, rfl, p.here R _ of_int⟩
  · obtain ⟨v, rfl, h⟩ := rvs1 r
    split at p
    · rename_i is q0
      obtain ⟨xs, q1, q2⟩ := Option.bind_eq_some_iff.mp q0
      obtain ⟨a, ws, rfl, _, e2, rr⟩ := rv_lst R h q1
      rw [intsOf_eq q2] at rr
      rw [RVs.ints rr] at e2
      obtain ⟨d, e3, p⟩ := p.ofO
      cases q3 : maxI is with
      | none => rw [q3] at e3; cases e3
      | some k =>
        rw [q3] at e3
        cases e3
        refine tm_call (cr_max hc) ⟨a, is, rfl, SqL.of e2, maxI_pos q3, fun m hm hle => ?_⟩
        rw [maxI_is q3 hm hle]
        exact p.here R _ of_int
    · exact p.elim
  · obtain ⟨v, rfl, h⟩ := rvs1 r
    split at p
    · rename_i is q0
      obtain ⟨xs, q1, q2⟩ := Option.bind_eq_some_iff.mp q0
      obtain ⟨a, ws, rfl, _, e2, rr⟩ := rv_lst R h q1
      rw [intsOf_eq q2] at rr
      rw [RVs.ints rr] at e2
      obtain ⟨d, e3, p⟩ := p.ofO
      cases q3 : minI is with
      | none => rw [q3] at e3; cases e3
      | some k =>
        rw [q3] at e3
        cases e3
        refine tm_call (cr_min hc) ⟨a, is, rfl, SqL.of e2, minI_pos q3, fun m hm hle => ?_⟩
        rw [minI_is q3 hm hle]
        exact p.here R _ of_int
    · exact p.elim
  · obtain ⟨v, rfl, h⟩ := rvs1 r
    split at p
    · rename_i is q0
      obtain ⟨xs, q1, q2⟩ := Option.bind_eq_some_iff.mp q0
      obtain ⟨a, ws, rfl, _, e2, rr⟩ := rv_lst R h q1
      rw [intsOf_eq q2] at rr
      rw [RVs.ints rr] at e2
      exact tm_call (cr_sum hc) ⟨a, is, rfl, SqL.of e2, p.here R _ of_int⟩
    · exact p.elim
  · obtain ⟨v, rfl, h⟩ := rvs1 r
    have := rv_int h; subst v
    obtain ⟨c, p⟩ := p.if_
    exact tm_call call_str_int ⟨_, rfl, Nat.lt_trans (PySem.Flt.log2_lt_of (k := 64) (by decide) (by omega)) (by decide), p.here R _ of_str⟩
  · obtain ⟨v, rfl, h⟩ := rvs1 r
    split at p
    · rename_i q0
      obtain ⟨a, ws, rfl, _, e2, rr⟩ := rv_lst R h (lstAt_of q0)
      exact tm_call call_list_of ⟨a, ws, rfl, .inl (SqL.of e2), fun q hq => p.mk R ⟨_, rfl, rr⟩ q hq⟩
    · rename_i kvs q0
      obtain ⟨a, u, rfl, _, e2, ws, rfl, ek, rr⟩ := rv_obj R h q0
      refine tm_call (call_list_dK hc) ⟨a, ws, rfl, e2, fun q hq => p.mk R ⟨_, rfl, ?_⟩ q hq⟩
      have e3 : (kvs.map fun kv => keyD kv.1) = (kvs.map (·.1)).map keyD := by rw [List.map_map]; rfl
      have e4 : (ws.map fun kv => L2.kV kv.1) = (ws.map (·.1)).map L2.kV := by rw [List.map_map]; rfl
      rw [e3, e4, ek]
      have key : ∀ l : List Key, RVs X.K H ρ (l.map keyD) (l.map L2.kV) := by
        intro l
        induction l with
        | nil => exact RVs.nil
        | cons k l ih =>
          refine RVs.cons ?_ ih
          cases k with
          | inl i => exact of_int
          | inr s => exact of_str
      exact key _
    · exact p.elim
  · obtain ⟨v, rfl, h⟩ := rvs1 r
    obtain ⟨a, ws, rfl, e2, rr⟩ := rv_tup h
    exact tm_call call_list_of ⟨a, ws, rfl, .inr (SqT.of e2), fun q hq => p.mk R ⟨_, rfl, rr⟩ q hq⟩
  · obtain ⟨v, rfl, h⟩ := rvs1 r
    split at p
    · rename_i q0
      obtain ⟨a, ws, rfl, _, e2, rr⟩ := rv_lst R h q0
      exact tm_call call_tuple_of ⟨a, ws, rfl, .inl ⟨SqL.of e2, fun q hq => p.tup R rr q hq⟩⟩
    · exact p.elim
  · obtain ⟨v, rfl, h⟩ := rvs1 r
    split at p
    · rename_i q0
      obtain ⟨a, ws, rfl, _, e2, rr⟩ := rv_lst R h q0
      split at p
      · rename_i is q1
        rw [intsOf_eq q1] at rr
        rw [RVs.ints rr] at e2
        refine tm_call cr_sortedI ⟨a, is, rfl, SqL.of e2, fun ns' q hp hs hq => ?_⟩
        rw [sortI_uniq hp hs]
        exact p.mk R ⟨_, rfl, RVs.of_ints⟩ q hq
      · split at p
        · rename_i ps q1
          rw [pairsOf_eq q1] at rr
          obtain ⟨k1, k2⟩ := pairs_rv rr
          refine tm_call cr_sortedPO ⟨a, ws, keyP H, rfl, SqL.of e2, k1, fun ys q hs hst hq => ?_⟩
          have hp : (ys.map (keyP H)).Perm ps := by
            rw [← k2]
            exact hst.perm.map _
          have hy : ∀ x ∈ ys, ∃ t, x = V.ref t ∧ H t = some (.tup [.int (keyP H x).1, .int (keyP H x).2]) := fun x hx => k1 x (hst.perm.mem_iff.mp hx)
          have ss : (ys.map (keyP H)).Pairwise LeP := by
            refine List.pairwise_map.mpr (List.Pairwise.imp ?_ (show ys.Pairwise (fun x y => ltP (keyP H) y x = false) from hs))
            intro x y hxy
            have := SrtO.lexB_no.mp hxy
            unfold LeP
            omega
          have e5 := sortP_uniq hp ss
          refine p.mk R ⟨_, rfl, ?_⟩ q hq
          rw [← e5]
          exact rv_pairs hy
        · exact p.elim
    · exact p.elim
  · exact p.elim
end
end Dv
end

section
set_option Elab.async false
set_option autoImplicit false
set_option linter.all false
set_option maxRecDepth 100000
set_option maxHeartbeats 2000000
/-! DvH: built-in methods, isinstance, o[i] = v, what is walked. -/
namespace Dv
open PySem L2
def bmT : Bm → String
  | .append => "list" | .extend => "list" | .pop => "list" | .index => "list" | .split => "str" | .join => "str" | .startswith => "str" | .get => "dict"
def bmN : Bm → Str
  | .append => "append" | .extend => "extend" | .pop => "pop" | .index => "index" | .split => "split" | .join => "join" | .startswith => "startswith" | .get => "get"
def bmI : Bm → String
  | .append => "list.append" | .extend => "list.extend" | .pop => "list.pop" | .index => "list.index" | .split => "str.split" | .join => "str.join" | .startswith => "str.startswith" | .get => "dict.get"
section
variable {CA : Nat → Addr} {H : Hp} {ρ : List Addr} {M : Store} {X : Cx} {W : WX} {σ : L2.St}
theorem rvs0 {vs : List V} (r : RVs X.K H ρ [] vs) : vs = [] := by simpa only [RVs] using r
theorem bmTy_ok (m : Bm) (R : RS CA X.K H ρ M) {x : D} {v : V} (h : RV X.K H ρ x v) (e : bmTy m M x = true) : tyV X.K (bmT m) v H := by
  have lst : ∀ {n : Nat} {v : V}, RV X.K H ρ (.loc n) v → (lstAt M n).isSome = true → tyV X.K "list" v H := fun {n v} h e => by
    obtain ⟨xs, q⟩ := Option.isSome_iff_exists.mp e
    obtain ⟨a, ws, rfl, _, e2, _⟩ := rv_lst R h q
    exact .inl ⟨rfl, ws, SqL.of e2⟩
  cases m with
  | append => cases x <;> first | exact lst h e | cases e
  | extend => cases x <;> first | exact lst h e | cases e
  | pop => cases x <;> first | exact lst h e | cases e
  | index => cases x <;> first | exact lst h e | cases e
  | split => cases x <;> first | (rw [rv_str h]; rfl) | cases e
  | join => cases x <;> first | (rw [rv_str h]; rfl) | cases e
  | startswith => cases x <;> first | (rw [rv_str h]; rfl) | cases e
  | get =>
    cases x with
    | loc n =>
      simp only [bmTy] at e
      split at e
      · rename_i kvs q
        obtain ⟨a, u, rfl, _, e2, ws, rfl, _⟩ := rv_obj R h q
        exact .inr (.inr (.inl ⟨rfl, .inl ⟨ws, e2⟩⟩))
      · cases e
    | _ => cases e
theorem seqIx {n : Nat} {i : Int} {k : Nat} (h : ixN n i = some k) : seqIndex? i n = some k := (ixN_seq h).1
theorem find_ix {p : D → Bool} : ∀ {ys : List D} {j : Nat}, findD p ys = some j → ∃ y, ys[j]? = some y ∧ p y = true ∧ ∀ m z, m < j → ys[m]? = some z → p z = false
  | [], j, e => by cases e
  | y :: r, j, e => by
    unfold findD at e
    split at e
    · rename_i c
      cases e
      exact ⟨y, rfl, c, fun m z h => absurd h (Nat.not_lt_zero _)⟩
    · rename_i c
      cases q : findD p r with
      | none => rw [q] at e; cases e
      | some k =>
        rw [q] at e
        have e' : k + 1 = j := Option.some.inj e
        subst e'
        obtain ⟨z, h1, h2, h3⟩ := find_ix q
        refine ⟨z, by simpa using h1, h2, fun m u hm hu => ?_⟩
        cases m with
        | zero =>
          simp at hu
          subst hu
          cases t : p y with
          | true => exact absurd t c
          | false => rfl
        | succ m => exact h3 m u (by omega) (by simpa using hu)
theorem rvs_getV {ds : List D} {vs : List V} {j : Nat} {v : V} (r : RVs X.K H ρ ds vs) (e : vs[j]? = some v) : ∃ d, ds[j]? = some d ∧ RV X.K H ρ d v := by
  have hl := RVs.length r
  have hj : j < ds.length := by
    rw [← hl]
    exact (List.getElem?_eq_some_iff.mp e).1
  obtain ⟨w, e1, e2⟩ := RVs.get r (List.getElem?_eq_getElem hj)
  rw [e] at e1
  cases e1
  exact ⟨_, List.getElem?_eq_getElem hj, e2⟩
theorem bmE_ok (m : Bm) (hu : X.A.units + 1 < cLine) (R : RS CA X.K H ρ M) {x : D} {v : V} {xs : List D} {vs : List V} {Q : VK} (h : RV X.K H ρ x v) (r : RVs X.K H ρ xs vs) (p : Post CA X.K W σ H ρ (bmE m M x xs) (kV' X.K Q)) : TMM X (bmI m) v vs H Q := by
  unfold bmE at p
  split at p
  · rename_i n y
    obtain ⟨w, rfl, h'⟩ := rvs1 r
    split at p
    · rename_i zs q0
      obtain ⟨a, ws, rfl, ea, e2, rr⟩ := rv_lst R h (lstAt_of q0)
      obtain ⟨c, p⟩ := p.if_
      refine tm_mt mt_append ⟨a, ws, w, rfl, rfl, e2, by rw [RVs.length rr]; exact c, ?_⟩
      exact p _ _ (St8.write (List.mem_of_getElem? ea)) (R.write ea ⟨_, rfl, RVs.app rr (RVs.cons h' RVs.nil)⟩) _ of_non
    · exact p.elim
  · rename_i n k
    obtain ⟨w, rfl, h'⟩ := rvs1 r
    split at p
    · rename_i zs us q0 q1
      obtain ⟨a, ws, rfl, ea, e2, rr⟩ := rv_lst R h (lstAt_of q0)
      obtain ⟨b, ws', rfl, eb, e2', rr'⟩ := rv_lst R h' (lstAt_of q1)
      obtain ⟨c, p⟩ := p.if_
      refine tm_mt mt_extend ⟨a, b, ws, ws', rfl, rfl, e2, e2', by rw [RVs.length rr, RVs.length rr']; exact c, ?_⟩
      exact p _ _ (St8.write (List.mem_of_getElem? ea)) (R.write ea ⟨_, rfl, RVs.app rr rr'⟩) _ of_non
    · exact p.elim
  · rename_i n
    have := rvs0 r
    subst this
    split at p
    · rename_i zs q0
      obtain ⟨a, ws, rfl, ea, e2, rr⟩ := rv_lst R h (lstAt_of q0)
      split at p
      · rename_i d q1
        obtain ⟨u, e3, r3⟩ := RVs.get rr q1
        have hl := RVs.length rr
        refine tm_mt mt_pop ⟨a, ws, u, rfl, rfl, e2, by rw [hl]; exact e3, ?_⟩
        have rd : RVs X.K H ρ zs.dropLast ws.dropLast := by
          rw [List.dropLast_eq_take, List.dropLast_eq_take, hl]
          exact RVs.take _ rr
        have st := St8.write (H := H) (o := .lst ws.dropLast) (List.mem_of_getElem? ea)
        exact p _ _ st (R.write ea ⟨_, rfl, rd⟩) _ (RV.mono R st _ _ r3)
      · exact p.elim
    · exact p.elim
  · rename_i n i
    obtain ⟨w, rfl, h'⟩ := rvs1 r
    have := rv_int h'; subst w
    split at p
    · rename_i zs q0
      obtain ⟨a, ws, rfl, ea, e2, rr⟩ := rv_lst R h (lstAt_of q0)
      split at p
      · rename_i k q1
        split at p
        · rename_i d q2
          obtain ⟨u, e3, r3⟩ := RVs.get rr q2
          have hl := RVs.length rr
          have hb := ixN_seq q1
          have st := St8.write (H := H) (o := .lst (ws.eraseIdx k)) (List.mem_of_getElem? ea)
          have rd : ∀ {zs : List D} {ws : List V} (k : Nat), RVs X.K H ρ zs ws → RVs X.K H ρ (zs.eraseIdx k) (ws.eraseIdx k) := fun {zs ws} k rr => by
            rw [List.eraseIdx_eq_take_drop_succ, List.eraseIdx_eq_take_drop_succ]
            exact RVs.app (RVs.take _ rr) (RVs.drop _ rr)
          intro pins s σ v us I rx rv
          have hz : zs.length < 2 ^ 63 := by
            obtain ⟨z1, _⟩ := I.hok a _ e2
            have := line63
            omega
          exact tm_mt mt_popAt ⟨a, ws, i, k, u, rfl, rfl, e2, by omega, by omega, by rw [hl]; exact hb.1, e3, p _ _ st (R.write ea ⟨_, rfl, rd k rr⟩) _ (RV.mono R st _ _ r3)⟩ pins s σ v us I rx rv
        · exact p.elim
      · exact p.elim
    · exact p.elim
  · rename_i n y
    obtain ⟨w, rfl, h'⟩ := rvs1 r
    split at p
    · rename_i zs q0
      obtain ⟨a, ws, rfl, ea, e2, rr⟩ := rv_lst R h (lstAt_of q0)
      obtain ⟨c, p⟩ := p.if_
      obtain ⟨c1, c2⟩ := Bool.and_eq_true_iff.mp c
      split at p
      · rename_i j q1
        obtain ⟨z, h1, h2, h3⟩ := find_ix q1
        obtain ⟨u, e3, r3⟩ := RVs.get rr h1
        have sz : ∀ {j : Nat} {z : D}, zs[j]? = some z → z.sc = true := fun {j z} e => List.all_eq_true.mp c2 z (List.mem_of_getElem? e)
        refine tm_mt mt_index ⟨a, ws, w, j, u, rfl, rfl, SqL.of e2, sc_v h' c1, flat_all rr c2, e3, ?_, fun m z' hm ez => ?_, p.here R _ of_int⟩
        · rw [← eqS_V r3 h' (sz h1) c1]; exact h2
        · obtain ⟨d, ed, rd⟩ := rvs_getV rr ez
          rw [← eqS_V rd h' (sz ed) c1]
          exact h3 m d hm ed
      · exact p.elim
    · exact p.elim
  · obtain ⟨w, rfl, h'⟩ := rvs1 r
    have := rv_str h; have := rv_str h'; subst v w
    obtain ⟨c, p⟩ := p.if_
    refine tm_mt mt_split ⟨_, _, rfl, rfl, by simpa using c.1, c.2, fun q hq => p.mk R ⟨_, rfl, RVs.of_strs⟩ q hq⟩
  · obtain ⟨w, rfl, h'⟩ := rvs1 r
    have := rv_str h; subst v
    split at p
    · rename_i ys q0
      obtain ⟨xs, q1, q2⟩ := Option.bind_eq_some_iff.mp q0
      obtain ⟨a, ws, rfl, ea, e2, rr⟩ := rv_lst R h' q1
      obtain ⟨c, p⟩ := p.if_
      rw [strsOf_eq q2] at rr
      rw [RVs.strs rr] at e2
      exact tm_mt mt_join ⟨_, a, ys, rfl, rfl, .inl (SqL.of e2), c, p.here R _ of_str⟩
    · exact p.elim
  · obtain ⟨w, rfl, h'⟩ := rvs1 r
    have := rv_str h; have := rv_str h'; subst v w
    exact tm_mt mt_startswith ⟨_, _, rfl, rfl, p.here R _ of_bl⟩
  · rename_i n y
    obtain ⟨w, rfl, h'⟩ := rvs1 r
    split at p
    · rename_i kvs q0
      obtain ⟨a, u, rfl, _, e2, ws, rfl, ek, rr⟩ := rv_obj R h q0
      split at p
      · rename_i k qk
        have ev := key_rv h' qk
        subst ev
        obtain ⟨i1, i2⟩ := find_map (X := X) kvs ws k ek rr
        have pe := p.here R
        intro pins s σ v us I rx rv
        obtain rfl : v = Value.ref a := rx
        obtain ⟨u1, rfl, ru⟩ := vals1 rv
        refine d_get1 hu I (DGet.k e2) ru fun w' s' I' rw' => ⟨_, H, I', rw', pe _ ?_⟩
        cases q : valK kvs k with
        | none => rw [i2 q]; exact of_non
        | some d =>
          obtain ⟨z, hz, rz⟩ := i1 d q
          rw [hz]
          exact rz
      · exact p.elim
    · exact p.elim
  · exact p.elim
/-- isinstance(x, T) -/
def tyN : Ty → String
  | .int => "int" | .bool => "bool" | .str => "str" | .list => "list" | .tuple => "tuple"
theorem kit_all (t : Ty) : ∀ (a : String) (b : Bool), kitB a (tyN t) = some b → ∀ K : PySem.W.Frag, PySem.W.kitOne K (.type a) (.type (tyN t)) = some b := fun a b h K => kit_ty h
theorem isiE_ok (t : Ty) (R : RS CA X.K H ρ M) {x : D} {v : V} {b : Bool} {Q : VK} (h : RV X.K H ρ x v) (e : isiE M x t = some b) (q : Q (.bl b) H) : TMC X (.builtin "isinstance") [v, .ty (tyN t)] H Q := by
  have go : ∀ (a : String), TyX X.K H v (.type a) → kitB a (tyN t) = some b → TMC X (.builtin "isinstance") [v, .ty (tyN t)] H Q := fun a ty k => tm_call call_isi ⟨v, .ty (tyN t), .type a, .type (tyN t), b, rfl, .ty _, ty, kit_ty k, q⟩
  cases x with
  | non =>
    rw [rv_non h] at go ⊢
    refine go "NoneType" (.base .non) ?_
    cases t <;> (cases e; decide +kernel)
  | bl c =>
    rw [rv_bl h] at go ⊢
    refine go "bool" (.base (.bl _)) ?_
    cases t <;> (cases e; decide +kernel)
  | int c =>
    rw [rv_int h] at go ⊢
    refine go "int" (.base (.int _)) ?_
    cases t <;> (cases e; decide +kernel)
  | str c =>
    rw [rv_str h] at go ⊢
    refine go "str" (.base (.str _)) ?_
    cases t <;> (cases e; decide +kernel)
  | tup ds =>
    obtain ⟨a, vs, ev, e2, _⟩ := rv_tup h
    rw [ev] at go ⊢
    refine go "tuple" (.base (.tup e2)) ?_
    cases t <;> (cases e; decide +kernel)
  | loc n =>
    have key : (lstAt M n).isSome = true → TyX X.K H v (.type "list") := fun z => by
      obtain ⟨ds, qd⟩ := Option.isSome_iff_exists.mp z
      obtain ⟨a, ws, rfl, _, e2, _⟩ := rv_lst R h qd
      exact .base (.lst e2)
    cases q0 : lstAt M n with
    | none => cases t <;> (simp [isiE, q0] at e)
    | some ds =>
      refine go "list" (key (by rw [q0]; rfl)) ?_
      cases t <;> (simp [isiE, q0] at e; subst e; decide +kernel)
  | rol xs => cases t <;> cases e
  | ktp xs => cases t <;> cases e
/-- o[i] = v -/
def TMY (X : Cx) (o i v : V) (H : Hp) (Q : Hp → Prop) : Prop := ∀ (pins : List (Addr × Obj)) (s : Shared) (σ : L2.St) (ov iv u : Value), Inv X pins σ H s → RelV o ov → RelV i iv → RelV v u → wpAny (model X.prog X.w) X.A (setItem ov iv u) (fun _ s' => ∃ H', Inv X pins σ H' s' ∧ Q H') X.xe s
theorem set_tm : PSet X (fun o i v H Q => TMY X o i v H Q) := fun pins s σ H o i v ov iv u Q I ro ri rv h => h pins s σ ov iv u I ro ri rv
theorem tm_set {t : TSet} {o i v : V} {Q : Hp → Prop} (h : PSet X t) (q : t o i v H Q) : TMY X o i v H Q := fun pins s σ ov iv u I ro ri rv => h pins s σ H o i v ov iv u Q I ro ri rv q
theorem put_map {κ : Type} [DecidableEq κ] (k : κ) {d : D} {z : V} (rz : RV X.K H ρ d z) : ∀ (kvs : List (κ × D)) (ws : List (κ × V)), ws.map (·.1) = kvs.map (·.1) → RVs X.K H ρ (kvs.map (·.2)) (ws.map (·.2)) →
    (ws.any fun kv => decide (kv.1 = k)) = (kvs.any fun kv => decide (kv.1 = k)) ∧ (ws.map (fun kv => if kv.1 = k then (kv.1, z) else kv)).map (·.1) = (kvs.map (fun kv => if kv.1 = k then (kv.1, d) else kv)).map (·.1) ∧
      RVs X.K H ρ ((kvs.map (fun kv => if kv.1 = k then (kv.1, d) else kv)).map (·.2)) ((ws.map (fun kv => if kv.1 = k then (kv.1, z) else kv)).map (·.2))
  | [], [], _, _ => ⟨rfl, rfl, RVs.nil⟩
  | [], _ :: _, e, _ => by cases e
  | _ :: _, [], e, _ => by cases e
  | (a, d') :: kvs, (b, v) :: ws, e, r => by
    simp only [List.map_cons, List.cons.injEq] at e
    obtain ⟨e1, e2⟩ := e
    subst e1
    simp only [List.map_cons, RVs] at r
    obtain ⟨v', r', er, h1, h2⟩ := r
    injection er with er1 er2
    subst er1 er2
    obtain ⟨i1, i2, i3⟩ := put_map k rz kvs ws e2 h2
    by_cases c : b = k
    · refine ⟨by rw [List.any_cons, List.any_cons, i1], ?_, ?_⟩
      · simp only [List.map_cons, if_pos c]
        exact congrArg _ i2
      · simp only [List.map_cons, if_pos c]
        exact RVs.cons rz i3
    · refine ⟨by rw [List.any_cons, List.any_cons, i1], ?_, ?_⟩
      · simp only [List.map_cons, if_neg c]
        exact congrArg _ i2
      · simp only [List.map_cons, if_neg c]
        exact RVs.cons h1 i3
theorem putK_map {κ : Type} [DecidableEq κ] (k : κ) {d : D} {z : V} (rz : RV X.K H ρ d z) {kvs : List (κ × D)} {ws : List (κ × V)} (e : ws.map (·.1) = kvs.map (·.1)) (r : RVs X.K H ρ (kvs.map (·.2)) (ws.map (·.2))) :
    (putK ws k z).map (·.1) = (putKD kvs k d).map (·.1) ∧ RVs X.K H ρ ((putKD kvs k d).map (·.2)) ((putK ws k z).map (·.2)) := by
  obtain ⟨i1, i2, i3⟩ := put_map k rz kvs ws e r
  unfold putK putKD
  rw [i1]
  by_cases c : (kvs.any fun kv => decide (kv.1 = k)) = true
  · rw [if_pos c, if_pos c]
    exact ⟨i2, i3⟩
  · rw [if_neg c, if_neg c]
    refine ⟨by rw [List.map_append, List.map_append, e]; rfl, ?_⟩
    rw [List.map_append, List.map_append]
    exact RVs.app r (RVs.cons rz RVs.nil)
theorem setE_ok (hu : X.A.units + 1 < cLine) (R : RS CA X.K H ρ M) {x i y : D} {v w z : V} {Q : Hp → Prop} (h : RV X.K H ρ x v) (hi : RV X.K H ρ i w) (hy : RV X.K H ρ y z)
    (p : Post CA X.K W σ H ρ (setE M x i y) fun _ M' H' ρ' => Q H') : TMY X v w z H Q := by
  unfold setE at p
  split at p
  · rename_i n
    split at p
    · rename_i xs q0
      obtain ⟨a, ws, rfl, ea, e2, rr⟩ := rv_lst R h (lstAt_of q0)
      split at p
      · rename_i k
        have := rv_int hi; subst w
        split at p
        · rename_i j q1
          refine tm_set set_list ⟨a, ws, k, j, rfl, rfl, e2, by rw [RVs.length rr]; exact q1, ?_⟩
          exact p _ _ (St8.write (List.mem_of_getElem? ea)) (R.write ea ⟨_, rfl, RVs.set j rr hy⟩)
        · exact p.elim
      · exact p.elim
    · rename_i kvs q0
      obtain ⟨a, u, rfl, ea, e2, ws, rfl, ek, rr⟩ := rv_obj R h q0
      split at p
      · rename_i k qk
        have ev := key_rv hi qk
        subst ev
        obtain ⟨c, p⟩ := p.if_
        have hl : ws.length = kvs.length := by simpa using congrArg List.length ek
        obtain ⟨j1, j2⟩ := putK_map (X := X) k hy ek rr
        refine tm_set (set_dict hu) ⟨a, _, rfl, DPut.k e2 (by rw [hl]; exact c), ?_⟩
        exact p _ _ (St8.write (List.mem_of_getElem? ea)) (R.write ea ⟨_, rfl, j1, j2⟩)
      · exact p.elim
    · rename_i kvs q0
      obtain ⟨a, u, rfl, ea, e2, ws, rfl, ek, rr⟩ := rv_obj R h q0
      split at p
      · rename_i ks
        split at p
        · rename_i k qk
          obtain ⟨t, vs, rfl, e4, r4⟩ := rv_tup hi
          have ev := keys_rv r4 qk
          subst ev
          obtain ⟨c, p⟩ := p.if_
          have hl : ws.length = kvs.length := by simpa using congrArg List.length ek
          obtain ⟨j1, j2⟩ := putK_map (X := X) k hy ek rr
          refine tm_set (set_dict hu) ⟨a, _, rfl, .inr ⟨ws, k, t, e2, rfl, e4, by rw [hl]; exact c, rfl⟩, ?_⟩
          exact p _ _ (St8.write (List.mem_of_getElem? ea)) (R.write ea ⟨_, rfl, j1, j2⟩)
        · exact p.elim
      · exact p.elim
    · exact p.elim
  · exact p.elim
end
end Dv
end

section
set_option Elab.async false
set_option autoImplicit false
set_option linter.all false
set_option maxRecDepth 100000
set_option maxHeartbeats 2000000
/-! DvI: a text's expression is an expression of the evaluator's; the context. -/
namespace Dv
open PySem L2
/-- names -/
structure Tb where
  isf : Nat → Bool
  cn : Nat → Str
  fn : Nat → Str
  gn : Nat → Str
  cm : Bool   -- no exception is held
  xi : Nat    -- the slot of the exception that is held
def biN : Bi → Str
  | .len => "len" | .int => "int" | .abs => "abs" | .min => "min" | .max => "max" | .sum => "sum" | .str => "str" | .list => "list" | .tuple => "tuple" | .sorted => "sorted"
def tyS : Ty → Str
  | .int => "int" | .bool => "bool" | .str => "str" | .list => "list" | .tuple => "tuple"
/-! ### side looks -/
def nst : Expr → Bool | .Starred _ _ => false | _ => true
def nsl : Expr → Bool | .Slice _ _ _ _ => false | _ => true
def nsup : Expr → Bool | .Call (.Name _ _) [] [] _ => false | _ => true
def nbl : Expr → Bool | .UnaryOp .Not _ _ => false | .BoolOp _ _ _ => false | .IfExp _ _ _ _ => false | .Compare _ _ _ _ => false | _ => true
def nset : Expr → Bool | .Set _ _ _ => false | _ => true
def ncmp : Expr → Bool | .ListComp _ _ _ _ => false | .SetComp _ _ _ _ => false | .DictComp _ _ _ _ _ => false | _ => true
theorem nst_ok {e : Expr} (h : nst e = true) (es : List Expr) (env : PySem.Env) : starEach (e :: es) env = (false, eval e env) :: starEach es env := by
  cases e <;> first | rfl | cases h
theorem nsl_ok {e : Expr} (h : nsl e = true) : PlainIx e := fun o i => by
  cases e <;> first | rfl | cases h
theorem nsup_ok {e : Expr} (h : nsup e = true) (f : Str) (env : PySem.Env) : attributeBase e f env (eval e env) = eval e env := by
  cases e with
  | Call g as ks p =>
    cases g <;> first | rfl | (cases as <;> first | rfl | (cases ks <;> first | rfl | cases h))
  | _ => rfl
theorem nset_ok {e : Expr} (h : nset e = true) (env : PySem.Env) (x : Value) : foldedSetIterable e env x = pure x := by
  cases e <;> first | rfl | cases h
theorem ncmp_ok {e : Expr} (h : ncmp e = true) (t : Option Expr) (l : Nat) (env : PySem.Env) : swapsWith e t l env = pure false := by
  cases e <;> first | rfl | cases h
theorem nbl_ok {e : Expr} (h : nbl e = true) (env : PySem.Env) (whole : PySem.Sem Value) : isTrue e env whole = (do let v ← whole; standAt e.pos; holding [v] (truthy v)) := by
  cases e with
  | UnaryOp op a p => cases op <;> first | rfl | cases h
  | _ => first | rfl | cases h
/-- no star in a row -/
def nsts (es : List Expr) : Bool := es.all nst
theorem plain_ok {es : List Expr} (h : nsts es = true) (pos : Pos) (env : PySem.Env) : (backTo pos (starEach es env)).any (·.1) = false := by
  induction es with
  | nil => rfl
  | cons e es ih =>
    obtain ⟨h1, h2⟩ := Bool.and_eq_true_iff.mp (show (nst e && nsts es) = true from h)
    rw [nst_ok h1]
    show (false || (backTo pos (starEach es env)).any (·.1)) = false
    rw [ih h2]
    rfl
theorem few_ok {es : List Expr} (h : nsts es = true) (hl : es.length < 20) (pos : Pos) (env : PySem.Env) : ((backTo pos (starEach es env)).all (fun x => !x.1) && (backToKw pos (keywordEach [] env)).all (fun x => x.1.isSome)
      && decide (es.length + ([] : List Keyword).length + (if ([] : List Keyword).isEmpty then 0 else 1) < 30)) = true := by
  have a : (backTo pos (starEach es env)).all (fun x => !x.1) = true := by
    clear hl
    induction es with
    | nil => rfl
    | cons e es ih =>
      obtain ⟨h1, h2⟩ := Bool.and_eq_true_iff.mp (show (nst e && nsts es) = true from h)
      rw [nst_ok h1]
      show (!false && (backTo pos (starEach es env)).all (fun x => !x.1)) = true
      rw [ih h2]
      rfl
  rw [a]
  show (true && true && decide (es.length + 0 + 0 < 30)) = true
  rw [decide_eq_true (by omega)]
  rfl
/-! ### names of a scope -/
def visB (sc : Scope) (x : Str) : Bool := match sc.names.lookup x with
  | some .local => true | some .cell => true | some .free => true | _ => false
def locB (sc : Scope) (x : Str) : Bool := match sc.names.lookup x with
  | some .local => true | _ => false
/-- a local, or (fc) a cell -/
def lclB (fc : Bool) (sc : Scope) (x : Str) : Bool := match sc.names.lookup x with
  | some .local => true
  | some .cell => fc
  | _ => false
theorem lclB_ok {fc : Bool} {sc : Scope} {x : Str} (h : lclB fc sc x = true) : sc.names.lookup x = some .local ∨ (sc.names.lookup x = some .cell ∧ fc = true) := by
  unfold lclB at h
  split at h
  · exact .inl (by assumption)
  · exact .inr ⟨by assumption, h⟩
  · cases h
def gloB (sc : Scope) (x : Str) : Bool := match sc.names.lookup x with
  | some .globalImplicit => true | _ => false
def dbgB (x : Str) : Bool := !(x == ("__debug__" : Str)) && !(x == ("__classdict__" : Str)) && !(x == ("__name__" : Str))
theorem visB_ok {sc : Scope} {x : Str} (h : visB sc x = true) : Vis sc x := by
  unfold visB at h
  split at h <;> first | (rename_i q; first | exact .inl q | exact .inr (.inl q) | exact .inr (.inr q)) | cases h
theorem locB_ok {sc : Scope} {x : Str} (h : locB sc x = true) : sc.names.lookup x = some .local := by
  unfold locB at h
  split at h
  · assumption
  · cases h
theorem gloB_ok {sc : Scope} {x : Str} (h : gloB sc x = true) : sc.names.lookup x = some .globalImplicit := by
  unfold gloB at h
  split at h
  · assumption
  · cases h
theorem dbgB_ok {x : Str} (h : dbgB x = true) : (x == ("__debug__" : Str)) = false ∧ (x == ("__classdict__" : Str)) = false ∧ x ≠ "__name__" := by
  unfold dbgB at h
  obtain ⟨h1, h2⟩ := Bool.and_eq_true_iff.mp h
  obtain ⟨h3, h4⟩ := Bool.and_eq_true_iff.mp h1
  exact ⟨by simpa using h3, by simpa using h4, by simpa using h2⟩

/-! ### the matcher -/
structure Mt where
  e : Expr → Bool
  a : List Expr → Bool
  bo : BoolOp → List Expr → Bool
  p : Option Expr → Bool
  i : Expr → Bool
  c : List Expr → Bool
def mtE (f : Expr → Bool) : Mt where
  e := f
  a := fun _ => false
  bo := fun _ vs => match vs with | [x] => f x | _ => false
  p := fun o => match o with | some x => f x && nsl x | none => false
  i := fun x => f x && nset x
  c := fun l => match l with | [x] => f x | _ => false
def mtB (op : BoolOp) (a : Expr → Bool) (b : BoolOp → List Expr → Bool) : Mt :=
  let g : List Expr → Bool := fun vs => match vs with | v :: w :: r => a v && b op (w :: r) | _ => false
  let f : Expr → Bool := fun x => match x with | .BoolOp o vs _ => decide (o = op) && g vs | _ => false
  { mtE f with bo := fun o vs => match vs with | [x] => f x | _ => decide (o = op) && g vs }
def ownP (N : List Str) (own : List Nat) : List (Str × Nat) := own.filterMap fun i => (N[i]?).map fun x => (x, i)
section
variable (B : Tb) (G : Gl) (N : List Str)
/-- a target of names -/
def tgM (fc : Bool) (sc : Scope) (tg : List Nat) (sole : Bool) (x : Expr) : Bool := match sole with
  | true => match tg, x with
    | [i], .Name y _ => decide (N[i]? = some y) && lclB fc sc y
    | _, _ => false
  | false => match x with
    | .Tuple es _ _ => decide (es.length = tg.length) && (es.zip tg).all fun q => match q.1 with
      | .Name y _ => decide (N[q.2]? = some y) && lclB fc sc y
      | _ => false
    | _ => false
def mm : E → Scope → Mt
  | .nil, _ => { mtE fun _ => false with a := fun es => es.isEmpty, p := fun o => o.isNone, c := fun l => l.isEmpty }
  | .cons h t, sc => { mtE fun _ => false with a := fun es => match es with | e :: r => nst e && nsl e && (mm h sc).e e && (mm t sc).a r | _ => false }
  | .rng es, sc => { mtE fun _ => false with i := fun x => match x with | .Call (.Name y _) as [] _ => decide (y = "range") && gloB sc y && decide (as.length = 1 ∨ as.length = 2) && nsts as && (mm es sc).a as | _ => false }
  | .var i, sc => mtE fun x => match x with | .Name y _ => decide (N[i]? = some y) && visB sc y && dbgB y | _ => false
  | .non, _ => mtE fun x => match x with | .Constant .none _ _ => true | _ => false
  | .bl b, _ => mtE fun x => match x with | .Constant (.bool c) _ _ => decide (b = c) | _ => false
  | .int i, _ => mtE fun x => match x with | .Constant (.int j) _ _ => decide (i = j) | _ => false
  | .str s, _ => mtE fun x => match x with | .Constant (.str t) _ _ => decide (s = t) | _ => false
  | .glb k, sc => mtE fun x => match x with | .Name y _ => decide (y = B.gn k) && gloB sc y && dbgB y | _ => false
  | .bin o a b, sc => mtE fun x => match x with | .BinOp l op r _ => decide (op = opP o) && (mm a sc).e l && (mm b sc).e r | _ => false
  | .neg a, sc => mtE fun x => match x with | .UnaryOp .USub l _ => (mm a sc).e l | _ => false
  | .cmp o a b, sc => mtE fun x => match x with | .Compare l [op] [r] _ => decide (op = coP o) && (mm a sc).e l && (mm b sc).e r && !behindInMarks op r | _ => false
  | .chn o p a b c, sc => mtE fun x => match x with | .Compare l [op, pp] [r, z] _ => decide (op = coP o) && decide (pp = coP p) && (mm a sc).e l && (mm b sc).e r && (mm c sc).e z && !behindInMarks pp z | _ => false
  | .ch3 o p q a b c d, sc => mtE fun x => match x with | .Compare l [op, pp, qq] [r, z, w] _ => decide (op = coP o) && decide (pp = coP p) && decide (qq = coP q) && (mm a sc).e l && (mm b sc).e r && (mm c sc).e z && (mm d sc).e w && !behindInMarks qq w | _ => false
  | .and a b, sc => mtB .And (mm a sc).e (mm b sc).bo
  | .or a b, sc => mtB .Or (mm a sc).e (mm b sc).bo
  | .not a, sc => mtE fun x => match x with | .UnaryOp .Not l _ => (mm a sc).e l | _ => false
  | .ife c a b, sc => mtE fun x => match x with | .IfExp t l r _ => (mm c sc).e t && (mm a sc).e l && (mm b sc).e r | _ => false
  | .tup es, sc => mtE fun x => match x with | .Tuple l _ _ => (mm es sc).a l && nsts l | _ => false
  | .lst es, sc => mtE fun x => match x with | .List l _ => (mm es sc).a l && nsts l | _ => false
  | .dnl _, _ => mtE fun x => match x with | .Dict [] [] _ => true | _ => false
  | .dsp _, _ => mtE fun _ => false
  | .idx a i, sc => mtE fun x => match x with | .Subscript l r _ => (mm a sc).e l && (mm i sc).e r && nsl r | _ => false
  | .slc a lo hi, sc => mtE fun x => match x with | .Subscript l (.Slice p q none _) _ => (mm a sc).e l && (mm lo sc).p p && (mm hi sc).p q | _ => false
  | .rev _, _ => mtE fun _ => false
  | .fld a f, sc => mtE fun x => match x with | .Attribute l g _ => decide (f = g) && (mm a sc).e l && nsup l | _ => false
  | .cal f es, sc => mtE fun x => match x with | .Call (.Name y _) as [] _ => B.cm && B.isf f && decide (y = B.fn f) && gloB sc y && dbgB y && nsts as && (mm es sc).a as | _ => false
  | .mak c es, sc => mtE fun x => match x with | .Call (.Name y _) as [] _ => B.cm && (G.ini c).isSome && decide (y = B.cn c) && gloB sc y && dbgB y && nsts as && (mm es sc).a as | _ => false
  | .mth o m es, sc => mtE fun x => match x with | .Call (.Attribute l g p) as [] q => B.cm && decide (g = G.mn m) && (mm o sc).e l && nsup l && decide (p.endLine = q.line) && nsts as && decide (as.length < 20) && (mm es sc).a as | _ => false
  | .bi b es, sc => mtE fun x => match x with | .Call (.Name y _) as [] _ => B.cm && decide (y = biN b) && gloB sc y && !as.isEmpty && nsts as && (mm es sc).a as | _ => false
  | .bm m o es, sc => mtE fun x => match x with | .Call (.Attribute l g p) as [] q => decide (g = bmN m) && (mm o sc).e l && nsup l && decide (p.endLine = q.line) && nsts as && decide (as.length < 20) && (mm es sc).a as && (match m with | .pop => true | _ => !as.isEmpty) | _ => false
  | .isi a t, sc => mtE fun x => match x with | .Call (.Name y _) [l, .Name z _] [] _ => decide (y = "isinstance") && gloB sc y && decide (z = tyS t) && gloB sc z && nst l && (mm a sc).e l | _ => false
  | .isx c, sc => mtE fun x => match x with | .Call (.Name y _) [.Name n _, .Name z _] [] _ => decide (y = "isinstance") && gloB sc y && decide (N[B.xi]? = some n) && visB sc n && dbgB n && decide (z = B.cn c) && gloB sc z && dbgB z && G.isc c | _ => false
  | .xfd f, sc => mtE fun x => match x with | .Attribute (.Name n _) g _ => decide (f = g) && decide (N[B.xi]? = some n) && visB sc n && dbgB n | _ => false
  | .cmp1 elt tg sole own it cond, sc => mtE fun x => match x with
    | .ListComp l [⟨t, src, ifs, k⟩] s2 _ => B.cm && decide (k = 0) && (mm it sc).i src && nset src && blkC N sc s2 (ownP N own) && decide ((ownP N own).map (·.2) = own) && tg.all (fun i => own.contains i) && tgM N false (relS s2 sc) tg sole t && (mm cond (relS s2 sc)).c ifs && (mm elt (relS s2 sc)).e l
    | _ => false
end
end Dv
end

section
set_option Elab.async false
set_option autoImplicit false
set_option linter.all false
set_option maxRecDepth 100000
set_option maxHeartbeats 2000000
/-! DvJ: calls, methods, new objects; the context of a body. -/
namespace Dv
open PySem L2
/-! ### what a def of the evaluator's promises -/
def PostC (CA : Nat → Addr) (K : PySem.W.Frag) (H : Hp) (ρ : List Addr) (o : Out D) (Q : VK) (E : XK) : Prop := match o with
  | .ok d M => ∀ v H' ρ', St8 H ρ H' ρ' → RS CA K H' ρ' M → RV K H' ρ' d v → Q v H'
  | .exc c fs M => ∀ dd H' ρ', St8 H ρ H' ρ' → RS CA K H' ρ' M → XR K H' fs dd → E (.ref (CA c)) dd H'
  | .bad => False
def spC (CA : Nat → Addr) (K : PySem.W.Frag) (cl : Cl) (f : Nat) : Sp := fun vs H Q E => ∃ ds M ρ, RS CA K H ρ M ∧ RVs K H ρ ds vs ∧ PostC CA K H ρ (cl f ds M) Q E
theorem Post.toC {CA : Nat → Addr} {K : PySem.W.Frag} {W : WX} {σ : L2.St} {H : Hp} {ρ : List Addr} {o : Out D} {Q : VK} (p : Post CA K W σ H ρ o (kV' K Q)) : PostC CA K H ρ o Q (WE W σ) := by
  cases o with
  | ok d M => exact fun v H' ρ' s R r => p H' ρ' s R v r
  | exc c fs M => exact p
  | bad => exact p
/-- a def that stands at a -/
def FnI (CA : Nat → Addr) (X : Cx) (cl : Cl) (g : Nat) (a : Addr) : Prop := ∃ fd ps k, FnOk X.prog X.w X.K X.mg X.base (L2.CX X.prog X.w) k a fd ps (spC CA X.K cl g) ∧ Room (k + 1) X.A ∧ Binds X.K fd ps []
structure Cc (G : Gl) (cl : Cl) (cu : Option (Nat × List (Str × D))) (B : Tb) (CA : Ca) (X : Cx) (W : WX) : Prop where
  nd : X.N.Nodup
  tk : Takes X W
  un : X.A.units + 200 < cLine
  calm : B.cm = true → X.calm = true
  sgc : B.cm = true → ∀ σ H, CA.sg σ H
  cuc : B.cm = true → cu = none
  kind : X.env.scope.kind = .function
  bln : ∀ b, X.mg (biN b) = none
  tyn : ∀ t, X.mg (tyS t) = none
  rgn : X.mg "range" = none
  isn : X.mg "isinstance" = none
  con : ∀ k d, G.con k = some d → ∃ v u, X.mg (B.gn k) = some u ∧ RelV v u ∧ ∀ H ρ, RV X.K H ρ d v
  fns : B.cm = true → ∀ f, B.isf f = true → ∃ a, X.mg (B.fn f) = some (.ref a) ∧ PySem.W.keepIn X.K (.ref a) = true ∧ FnI CA X cl f a
  mth : B.cm = true → ∀ c m g, G.mid c m = some g → ∃ a, Cls X.K (CA c) ∧ Meth X.K (CA c) (G.mn m) a ∧ FnI CA X cl g a
  mak : B.cm = true → ∀ c g, G.ini c = some g → ∃ a, X.mg (B.cn c) = some (.ref (CA c)) ∧ Mk X.K (CA c) a ∧ FnI CA X cl g a
  fld : ∀ c f, G.fok c f = true → Cls X.K (CA c) ∧ NoAttr X.K (CA c) f
  xcl : ∀ c, G.isc c = true → X.mg (B.cn c) = some (.ref (CA c)) ∧ ExcC X.K (CA c)
  xsb : ∀ k c, G.isc k = true → G.isc c = true → PySem.W.kitOne X.K (.ref (CA k)) (.ref (CA c)) = some (G.sub k c) ∧ PySem.W.exmOne X.K (.ref (CA k)) (.ref (CA c)) = some (G.sub k c)
  xfl : ∀ k f, G.xok k f = true → XfC X.K (CA k) ∧ PySem.W.findIn X.K (.ref (CA k)) f = some none
  xc : ∀ k fs, cu = some (k, fs) → G.isc k = true ∧ ∃ a oe d pn X0, X = Cx.suite X0 a ((a, oe) :: pn) ∧ Zc (.ref (CA k)) d oe ∧ (∃ vs, oe.data = .fields vs) ∧ ∀ σ H, CA.sg σ H → σ[B.xi]? = some (some (.ref a)) ∧ XR X.K H fs d
/-! ### rules: calls with any number of arguments, what is raised wished for at the slots -/
section
variable {X : Cx} {CX : CXT} {k : Nat} {f C : Addr} {fd : FuncData} {ps : List Str} {sp : Sp} {E : L2.St → XK} {x m : Str} {p pos apos : Pos} {o : Expr} {es : List Expr} {ta : TE} {t : TA}
theorem pe_callS0 (F : FnOk X.prog X.w X.K X.mg X.base CX k f fd ps sp) (hr : Room k X.A) (hg : L2.Gl X x) (hm : X.mg x = some (.ref f)) (hk : PySem.W.keepIn X.K (.ref f) = true) (hb : Binds X.K fd ps []) (hx : ∀ σ, PassesAt CX X σ (E σ))
    (hdb : (x == ("__debug__" : Str)) = false) : PE X (.Call (.Name x p) [] [] pos) (fun σ H Q => sp [] H Q (E σ)) := by
  refine ⟨fun pins s σ H Q I h => ?_⟩
  refine PySem.wpAny_Call_Name_kw (ld_glob I hg hm ?_ hdb)
  exact PySem.W.callWith_K0 I.kIn hk (run_fnS (us := []) F hr hb (hx σ) I .nil h)
theorem meth_eq {env : PySem.Env} (hs : nsup o = true) (hsts : nsts es = true) (hl : es.length < 20) (hline : apos.endLine = pos.line) : eval (.Call (.Attribute o m apos) es [] pos) env = (do
      let ov ← eval o env
      standAt apos.atName
      let (f, first) ← holding [ov] (getMethod ov m (plainOf o env))
      callWith pos f first (backTo pos (starEach es env)) (backToKw pos (keywordEach [] env))) := by
  show (attributeBase o m env (eval o env) >>= fun ov => standAt apos.atName >>= fun _ => methodCall o m apos pos env ov (es.length + ([] : List Keyword).length) (backTo pos (starEach es env)) (backToKw pos (keywordEach [] env))) = _
  rw [nsup_ok hs]
  congr 1
  funext ov
  congr 1
  funext _
  refine mcall_line ?_ (by simp [hline])
  have := few_ok hsts hl pos env
  unfold methodCallForm
  exact this
theorem pe_methS (he : PE X o ta) (c : Cls X.K C) (hm : Meth X.K C m f) (F : FnOk X.prog X.w X.K X.mg X.base CX k f fd ps sp) (hr : Room k X.A) (hb : Binds X.K fd ps []) (hx : ∀ σ, PassesAt CX X σ (E σ)) {e : Expr} (ha : PA X (e :: es) t)
    (hs : nsup o = true) (hsts : nsts (e :: es) = true) (hl : (e :: es).length < 20) (hline : apos.endLine = pos.line) :
    PE X (.Call (.Attribute o m apos) (e :: es) [] pos) (fun σ H Q => ta σ H fun x H1 => ∃ a dx fs, x = .ref a ∧ H1 a = some (.ins C dx fs) ∧ fs.lookup m = none ∧ t σ H1 fun vs H2 => sp (x :: vs) H2 Q (E σ)) := by
  obtain ⟨h1, h2⟩ := Bool.and_eq_true_iff.mp (show (nst e && nsts es) = true from hsts)
  refine ⟨fun pins s σ H Q I h => ?_⟩
  refine PySem.W.methodCall_KW (pl := plainOf o X.env) (thn (he.run pins s σ H _ I h) fun u s1 ⟨x, H1, I1, rx, a, dx, fs, ex, ea, l, q⟩ => ?_) (meth_eq hs hsts hl hline)
  subst ex
  obtain rfl : u = Value.ref a := rx
  refine getmeth_ok I1 ea c hm l ?_
  refine PySem.W.callWith_K (first := [.ref a]) (h₀ := X.base) I.ok.mod.kin hm.kp (thn (ha.run pos pins s1 σ H1 _ I1 q) fun us s2 ⟨vs, H2, I2, r, q2⟩ => ⟨I2.kIn, ?_⟩) (nst_ok h1 es X.env) (plain_ok h2 pos X.env)
  exact run_fnS (us := .ref a :: us) (vs := .ref a :: vs) F hr hb (hx σ) I2 (.cons rfl r) q2
theorem pe_methS0 (he : PE X o ta) (c : Cls X.K C) (hm : Meth X.K C m f) (F : FnOk X.prog X.w X.K X.mg X.base CX k f fd ps sp) (hr : Room k X.A) (hb : Binds X.K fd ps []) (hx : ∀ σ, PassesAt CX X σ (E σ))
    (hs : nsup o = true) (hline : apos.endLine = pos.line) :
    PE X (.Call (.Attribute o m apos) [] [] pos) (fun σ H Q => ta σ H fun x H1 => ∃ a dx fs, x = .ref a ∧ H1 a = some (.ins C dx fs) ∧ fs.lookup m = none ∧ sp [x] H1 Q (E σ)) := by
  refine ⟨fun pins s σ H Q I h => ?_⟩
  refine PySem.W.methodCall_KW (pl := plainOf o X.env) (thn (he.run pins s σ H _ I h) fun u s1 ⟨x, H1, I1, rx, a, dx, fs, ex, ea, l, q⟩ => ?_) (meth_eq hs rfl (by decide) hline)
  subst ex
  obtain rfl : u = Value.ref a := rx
  refine getmeth_ok I1 ea c hm l ?_
  exact PySem.W.callWith_K0 (first := [.ref a]) I1.kIn hm.kp (run_fnS (us := [.ref a]) (vs := [.ref a]) F hr hb (hx σ) I1 (.cons rfl .nil) q)
theorem run_makeS {pins : List (Addr × Obj)} {σ : L2.St} {H : Hp} {s : Shared} {Q : VK} {us : List Value} {vs : List V} (M : Mk X.K C f) (F : FnOk X.prog X.w X.K X.mg X.base CX k f fd ps sp) (hr : Room (k + 1) X.A) (hb : Binds X.K fd ps [])
    (hx : PassesAt CX X σ (E σ)) (I : Inv X pins σ H s) (r : Vals vs us)
    (h : ∀ x dx, H x = none → H dx = none → dx ≠ x → sp (.ref x :: vs) (upd (upd H dx (.own x)) x (.ins C dx [])) (fun v H2 => v = .non ∧ Q (.ref x) H2) (E σ)) :
    wpAny (model X.prog X.w) X.A (PySem.call (.ref C) us) (EP X pins σ Q) X.xe s := by
  have hq := h (s.heap.objs.size + 1) s.heap.objs.size (I.hok.fresh (Nat.le_succ _)) (I.hok.fresh (Nat.le_refl _)) (Nat.ne_of_lt (Nat.lt_succ_self _))
  have I2 := Inv.made (C := C) I
  have r2 : Vals (V.ref (s.heap.objs.size + 1) :: vs) (Value.ref (s.heap.objs.size + 1) :: us) := .cons rfl r
  have hl : (Value.ref (s.heap.objs.size + 1) :: us).length = ps.length := by
    have e := r2.length
    rw [F.len _ _ _ _ hq] at e
    exact e.symm
  have b := hb _ (Value.ref (s.heap.objs.size + 1) :: us) I2.kIn (by rw [List.append_nil]; exact hl)
  rw [List.append_nil] at b
  refine PySem.wpAny_call (make_map (f := f) I.kIn M.makes M.init (beq_iff_eq.mp M.fn) (codeAny_mono (F.run _ X.stack _ _ ⟨Value.ref (s.heap.objs.size + 1) :: us, []⟩ (Value.ref (s.heap.objs.size + 1) :: us) _ _ (E σ) (hr.make C us [])
    (I2.env0.make C us []) b r2 hq) fun r s' hq' => ?_))
  cases r with
  | error e => exact hx pins _ _ e s' I2 hq'
  | ok fl =>
    cases fl with
    | ret u =>
      obtain ⟨v, H', I3, rv, ev, q3⟩ := I2.after hq'
      subst ev
      exact ⟨rv, ⟨V.ref (s.heap.objs.size + 1), H', I3, rfl, q3⟩⟩
    | next => exact False.elim hq'
    | brk => exact False.elim hq'
    | cont => exact False.elim hq'
/-- C(..) -/
def tMkS (C : Addr) (sp : Sp) (E : L2.St → XK) (t : TA) : TE := fun σ H Q => t σ H fun vs H1 => ∀ x dx, H1 x = none → H1 dx = none → dx ≠ x → sp (.ref x :: vs) (upd (upd H1 dx (.own x)) x (.ins C dx [])) (fun v H2 => v = .non ∧ Q (.ref x) H2) (E σ)
theorem pe_makeS (M : Mk X.K C f) (F : FnOk X.prog X.w X.K X.mg X.base CX k f fd ps sp) (hr : Room (k + 1) X.A) (hg : L2.Gl X x) (hm : X.mg x = some (.ref C)) (hb : Binds X.K fd ps []) (hx : ∀ σ, PassesAt CX X σ (E σ)) {e : Expr}
    (ha : PA X (e :: es) t) (hdb : (x == ("__debug__" : Str)) = false) (hsts : nsts (e :: es) = true) : PE X (.Call (.Name x p) (e :: es) [] pos) (tMkS C sp E t) := by
  obtain ⟨h1, h2⟩ := Bool.and_eq_true_iff.mp (show (nst e && nsts es) = true from hsts)
  refine ⟨fun pins s σ H Q I h => ?_⟩
  refine PySem.wpAny_Call_Name_kw (ld_glob I hg hm ?_ hdb)
  refine PySem.W.callWith_K (h₀ := X.base) I.ok.mod.kin M.kp (thn (ha.run pos pins s σ H _ I h) fun us s1 ⟨vs, H1, I1, r, q⟩ => ⟨I1.kIn, ?_⟩) (nst_ok h1 es X.env) (plain_ok h2 pos X.env)
  exact run_makeS M F hr hb (hx σ) I1 r q
theorem pe_makeS0 (M : Mk X.K C f) (F : FnOk X.prog X.w X.K X.mg X.base CX k f fd ps sp) (hr : Room (k + 1) X.A) (hg : L2.Gl X x) (hm : X.mg x = some (.ref C)) (hb : Binds X.K fd ps []) (hx : ∀ σ, PassesAt CX X σ (E σ))
    (hdb : (x == ("__debug__" : Str)) = false) : PE X (.Call (.Name x p) [] [] pos) (tMkS C sp E tNil) := by
  refine ⟨fun pins s σ H Q I h => ?_⟩
  refine PySem.wpAny_Call_Name_kw (ld_glob I hg hm ?_ hdb)
  exact PySem.W.callWith_K0 I.kIn M.kp (run_makeS (us := []) M F hr hb (hx σ) I .nil h)
/-- a built-in function or class, no matter which -/
theorem pe_bi {b : Bi} {r : List V → Hp → VK → Prop} (hc : CallR X (biV b) r) (hg : L2.Gl X (biN b)) (hm : X.mg (biN b) = none) {e : Expr} (ha : PA X (e :: es) t) (hsts : nsts (e :: es) = true) : PE X (.Call (.Name (biN b) p) (e :: es) [] pos) (tCB r t) := by
  obtain ⟨h1, h2⟩ := Bool.and_eq_true_iff.mp (show (nst e && nsts es) = true from hsts)
  have n := nst_ok h1 es X.env
  have pl := plain_ok h2 pos X.env
  cases b with
  | len => exact pe_callB hc hg hm (by decide +kernel) ha (by decide) (by decide) n pl
  | int => exact pe_callTy hc hg hm (by decide +kernel) ha (by decide) (by decide) n pl
  | abs => exact pe_callB hc hg hm (by decide +kernel) ha (by decide) (by decide) n pl
  | min => exact pe_callB hc hg hm (by decide +kernel) ha (by decide) (by decide) n pl
  | max => exact pe_callB hc hg hm (by decide +kernel) ha (by decide) (by decide) n pl
  | sum => exact pe_callB hc hg hm (by decide +kernel) ha (by decide) (by decide) n pl
  | str => exact pe_callTy hc hg hm (by decide +kernel) ha (by decide) (by decide) n pl
  | list => exact pe_callTy hc hg hm (by decide +kernel) ha (by decide) (by decide) n pl
  | tuple => exact pe_callTy hc hg hm (by decide +kernel) ha (by decide) (by decide) n pl
  | sorted => exact pe_callB hc hg hm (by decide +kernel) ha (by decide) (by decide) n pl
end
section
variable {X : Cx} {o : Expr} {es : List Expr} {to : TE} {t : TA} {apos pos : Pos}
theorem pe_bmA {m : Bm} {r : V → List V → Hp → VK → Prop} (hm : MtR X (bmI m) r) (ho : PE X o to) {e : Expr} (ha : PA X (e :: es) t) (hs : nsup o = true) (hsts : nsts (e :: es) = true) (hl : (e :: es).length < 20) (hline : apos.endLine = pos.line) :
    PE X (.Call (.Attribute o (bmN m) apos) (e :: es) [] pos) (tBM X.K (bmT m) r to t) := by
  obtain ⟨h1, h2⟩ := Bool.and_eq_true_iff.mp (show (nst e && nsts es) = true from hsts)
  have n := nst_ok h1 es X.env
  have pl := plain_ok h2 pos X.env
  have fw := few_ok hsts hl pos X.env
  have ln : (apos.endLine == pos.line) = true := by simp [hline]
  have hb := fun f => nsup_ok hs f X.env
  cases m with
  | append => exact pe_bm PySem.F.plainAttrs_list PySem.F.slot_list_append PySem.F.type_list_append hm ho ha (hb _) fw ln n pl
  | extend => exact pe_bm PySem.F.plainAttrs_list PySem.F.slot_list_extend PySem.F.type_list_extend hm ho ha (hb _) fw ln n pl
  | pop => exact pe_bm PySem.F.plainAttrs_list PySem.F.slot_list_pop PySem.F.type_list_pop hm ho ha (hb _) fw ln n pl
  | index => exact pe_bm PySem.F.plainAttrs_list PySem.F.slot_list_index PySem.F.type_list_index hm ho ha (hb _) fw ln n pl
  | split => exact pe_bm PySem.F.plainAttrs_str PySem.F.slot_str_split PySem.F.type_str_split hm ho ha (hb _) fw ln n pl
  | join => exact pe_bm PySem.F.plainAttrs_str PySem.F.slot_str_join PySem.F.type_str_join hm ho ha (hb _) fw ln n pl
  | startswith => exact pe_bm PySem.F.plainAttrs_str PySem.F.slot_str_startswith PySem.F.type_str_startswith hm ho ha (hb _) fw ln n pl
  | get => exact pe_bm PySem.F.plainAttrs_dict PySem.F.slot_dict_get PySem.F.type_dict_get hm ho ha (hb _) fw ln n pl
theorem pe_bmA0 {r : V → List V → Hp → VK → Prop} (hm : MtR X "list.pop" r) (ho : PE X o to) (hs : nsup o = true) (hline : apos.endLine = pos.line) :
    PE X (.Call (.Attribute o "pop" apos) [] [] pos) (tBM0 X.K "list" r to) :=
  pe_bm0 PySem.F.plainAttrs_list PySem.F.slot_list_pop PySem.F.type_list_pop hm ho (nsup_ok hs _ X.env) (by simp [hline])
end
/-! ### comparisons, three in a chain -/
section
variable {X : Cx} {a b c d : Expr} {ta tb tc td : TE} {pos : Pos}
theorem pc_op {op : CmpOp} {r : R2} (ho : OpR X (compareOp op) r) (ha : PE X a ta) (hb : PE X b tb) : PC X op a b (tOp r ta tb) := ⟨fun pins s σ H Q I h => binT ha hb I h fun v u s2 x y H2 I2 rx ry q => ho pins s2 σ H2 x y v u Q I2 rx ry q⟩
def tChain3 (r r' r'' : R2) (ta tb tc td : TE) : TE := fun σ H Q => ta σ H fun x H1 => tb σ H1 fun y H2 => r x y H2 fun z H3 => ∃ k, z = .bl k ∧
  (if k = true then tc σ H3 fun w' H4 => r' y w' H4 fun z H5 => ∃ k, z = .bl k ∧ (if k = true then td σ H5 fun u H6 => r'' w' u H6 Q else Q (.bl false) H5) else Q (.bl false) H3)
theorem pe_chain3 {op op' op'' : CmpOp} {r r' r'' : R2} (ho : OpR X (compareOp op) r) (ho' : OpR X (compareOp op') r') (ho'' : OpR X (compareOp op'') r'') (ha : PE X a ta) (hb : PE X b tb) (hc : PE X c tc) (hd : PE X d td)
    (hm : lastMarks [op, op', op''] [b, c, d] = false) : PE X (.Compare a [op, op', op''] [b, c, d] pos) (tChain3 r r' r'' ta tb tc td) := by
  refine ⟨fun pins s σ H Q I h => ?_⟩
  refine PyProof.Rows.Compare_chain (thn (ha.run pins s σ H _ I h) fun v s1 ⟨x, H1, I1, r1, q1⟩ => PyProof.Rows.chain_link (thn (hb.run pins s1 σ H1 _ I1 q1) fun u s2 ⟨y, H2, I2, r2, q2⟩ =>
    thn (ho pins s2 σ H2 x y v u _ I2 r1 r2 q2) fun d s3 ⟨z, H3, I3, r3, k, e, q3⟩ => ?_)) hm
  subst e
  cases r3
  refine PySem.wpAny_truthy_bool ?_
  cases k with
  | false => exact PyProof.Rows.ite_ff ⟨.bl false, H3, I3, rfl, q3⟩
  | true =>
    refine PyProof.Rows.ite_tt (PyProof.Rows.chain_link (thn (hc.run pins s3 σ H3 _ I3 q3) fun w' s4 ⟨z', H4, I4, r4, q4⟩ => thn (ho' pins s4 σ H4 y z' u w' _ I4 r2 r4 q4) fun d s5 ⟨z5, H5, I5, r5, k5, e5, q5⟩ => ?_))
    subst e5
    cases r5
    refine PySem.wpAny_truthy_bool ?_
    cases k5 with
    | false => exact PyProof.Rows.ite_ff ⟨.bl false, H5, I5, rfl, q5⟩
    | true => exact PyProof.Rows.ite_tt (PyProof.Rows.chain_last (thn (hd.run pins s5 σ H5 _ I5 q5) fun w6 s6 ⟨z6, H6, I6, r6, q6⟩ => ho'' pins s6 σ H6 z' z6 w' w6 Q I6 r4 r6 q6))
theorem pt_chain3 {op op' op'' : CmpOp} {r r' r'' : R2} (ho : OpR X (compareOp op) r) (ho' : OpR X (compareOp op') r') (ho'' : OpR X (compareOp op'') r'') (ha : PE X a ta) (hb : PE X b tb) (hc : PE X c tc) (hd : PE X d td)
    (hm : lastMarks [op, op', op''] [b, c, d] = false) : PT X (.Compare a [op, op', op''] [b, c, d] pos) (tTest (tChain3 r r' r'' ta tb tc td)) := by
  refine ⟨fun pins s σ H Q I h => ?_⟩
  refine PyProof.Rows.isTrue_chain (thn (ha.run pins s σ H _ I h) fun v s1 ⟨x, H1, I1, r1, q1⟩ => PyProof.Rows.test_link (thn (hb.run pins s1 σ H1 _ I1 q1) fun u s2 ⟨y, H2, I2, r2, q2⟩ =>
    thn (ho pins s2 σ H2 x y v u _ I2 r1 r2 q2) fun d s3 ⟨z, H3, I3, r3, k, e, q3⟩ => ?_)) hm
  subst e
  cases r3
  refine PySem.wpAny_truthy_bool ?_
  cases k with
  | false =>
    obtain ⟨k', e', q'⟩ := q3
    cases e'
    exact PyProof.Rows.ite_ff ⟨H3, I3, q'⟩
  | true =>
    refine PyProof.Rows.ite_tt (PyProof.Rows.test_link (thn (hc.run pins s3 σ H3 _ I3 q3) fun w' s4 ⟨z', H4, I4, r4, q4⟩ => thn (ho' pins s4 σ H4 y z' u w' _ I4 r2 r4 q4) fun d s5 ⟨z5, H5, I5, r5, k5, e5, q5⟩ => ?_))
    subst e5
    cases r5
    refine PySem.wpAny_truthy_bool ?_
    cases k5 with
    | false =>
      obtain ⟨k', e', q'⟩ := q5
      cases e'
      exact PyProof.Rows.ite_ff ⟨H5, I5, q'⟩
    | true =>
      refine PyProof.Rows.ite_tt (PyProof.Rows.test_last (thn (hd.run pins s5 σ H5 _ I5 q5) fun w6 s6 ⟨z6, H6, I6, r6, q6⟩ => thn (ho'' pins s6 σ H6 z' z6 w' w6 _ I6 r4 r6 q6) fun d' s7 ⟨z7, H7, I7, r7, k7, e7, q7⟩ => ?_))
      subst e7
      cases r7
      exact PySem.wpAny_truthy_bool ⟨H7, I7, q7⟩
end
end Dv
end

section
set_option Elab.async false
set_option autoImplicit false
set_option linter.all false
set_option maxRecDepth 100000
set_option maxHeartbeats 4000000
/-! DvK: an expression that matches is worth what the evaluator says. -/
namespace Dv
open PySem L2
section
variable (CA : Ca) (X : Cx) (W : WX)
def SE (e : Expr) (f : Env → Store → Out D) : Prop := ∀ (σ : L2.St) (H : Hp) (ρ : List Addr) (env : Env) (M : Store) (Q : VK), Rel CA X.K H ρ env σ M → Post CA X.K W σ H ρ (f env M) (kV' X.K Q) → TMX X e σ H Q
def ST (e : Expr) (f : Env → Store → Out Bool) : Prop := ∀ (σ : L2.St) (H : Hp) (ρ : List Addr) (env : Env) (M : Store) (Q : Bool → Hp → Prop), Rel CA X.K H ρ env σ M → Post CA X.K W σ H ρ (f env M) (fun b _ H' _ => Q b H') → TMT X e σ H Q
def SW (e : Expr) (f : Env → Store → Out Bool) : Prop := ∀ (σ : L2.St) (H : Hp) (ρ : List Addr) (env : Env) (M : Store) (Q : Bool → Hp → Prop), Rel CA X.K H ρ env σ M → Post CA X.K W σ H ρ (f env M) (fun b _ H' _ => Q b H') → TMW X e σ H Q
def SA (es : List Expr) (f : Env → Store → Out (List D)) : Prop := ∀ (σ : L2.St) (H : Hp) (ρ : List Addr) (env : Env) (M : Store) (Q : List V → Hp → Prop), Rel CA X.K H ρ env σ M → Post CA X.K W σ H ρ (f env M) (fun ds _ H' ρ' => ∀ vs, RVs X.K H' ρ' ds vs → Q vs H') → TMA X es σ H Q
def SPt (o : Option Expr) (f : Env → Store → Out (Option Int)) : Prop := ∀ (σ : L2.St) (H : Hp) (ρ : List Addr) (env : Env) (M : Store) (Q : Option Int → Hp → Prop), Rel CA X.K H ρ env σ M → Post CA X.K W σ H ρ (f env M) (fun b _ H' _ => Q b H') → TMP X o σ H Q
/-- a source's iterator -/
def ItOk (H0 : Hp) (ρ0 : List Addr) (src : Src) (J : It) : Prop := ∀ (i : Nat) (H : Hp) (ρ : List Addr) (M : Store), St8 H0 ρ0 H ρ → RS CA X.K H ρ M → src.stands M = true →
  (∀ d, src.items[i]? = some d → J.go i H ∧ ∀ x H', J.yld i H x H' → H' = H ∧ RV X.K H ρ d x) ∧ (i = src.items.length → J.stop i H)
def SI (tg e : Expr) (f : Env → Store → Out Src) : Prop := ∀ (σ : L2.St) (H : Hp) (ρ : List Addr) (env : Env) (M : Store) (R : It → Hp → Prop), Rel CA X.K H ρ env σ M → Post CA X.K W σ H ρ (f env M) (fun s _ H' ρ' => ∀ J, ItOk CA X H' ρ' s J → R J H') → TMI X tg e σ H R
end
section
variable {CA : Ca} {X : Cx} {W : WX}
/-- a value's test -/
theorem SE.test {e : Expr} {f : Env → Store → Out D} (h : SE CA X W e f) (nb : nbl e = true) : ST CA X W e fun env M => (f env M).bind fun x M1 => ofO (truD M1 x) M1 := by
  intro σ H ρ env M Q rel p
  refine tm_pt (pt_truth (pe_tm X e) fun whole => nbl_ok nb X.env whole) ?_
  refine h σ H ρ env M _ rel (p.bind.mono fun x M1 H1 ρ1 _ s1 R1 p1 v hv => ?_)
  obtain ⟨b, e1, p1⟩ := p1.ofO
  exact ⟨b, truD_ok R1 hv e1, p1.here R1⟩
theorem SE.part {e : Expr} {f : Env → Store → Out D} (h : SE CA X W e f) : SPt CA X W (some e) fun env M => (f env M).bind fun x M1 => asInt M1 x := by
  intro σ H ρ env M Q rel p
  refine tm_po (po_some (pe_tm X e)) ?_
  refine h σ H ρ env M _ rel (p.bind.mono fun x M1 H1 ρ1 _ s1 R1 p1 v hv => ?_)
  unfold asInt at p1
  split at p1
  · exact ⟨_, rv_int hv, p1.here R1⟩
  · exact p1.elim
theorem its_int (lo : Int) (n : Nat) (i : Nat) (d : D) (h : ((List.range n).map fun (i : Nat) => D.int (lo + (i : Nat)))[i]? = some d) : i < n ∧ d = .int (lo + i) := by
  rw [List.getElem?_map] at h
  cases q : (List.range n)[i]? with
  | none => rw [q] at h; cases h
  | some j =>
    rw [q] at h
    obtain ⟨h1, h2⟩ := List.getElem?_eq_some_iff.mp q
    rw [List.getElem_range] at h2
    rw [List.length_range] at h1
    subst h2
    cases h
    exact ⟨h1, rfl⟩
theorem itOk_rng {H0 : Hp} {ρ0 : List Addr} (lo : Int) (n : Nat) : ItOk CA X H0 ρ0 (.its ((List.range n).map fun (i : Nat) => D.int (lo + (i : Nat)))) (Itr lo n) := by
  intro i H ρ M s R st
  refine ⟨fun d hd => ?_, fun hi => ?_⟩
  · obtain ⟨h1, rfl⟩ := its_int lo n i d hd
    exact ⟨h1, fun x H' ⟨e, ex⟩ => ⟨e, by rw [ex]; exact of_int⟩⟩
  · have : i = n := by simpa [Src.items] using hi
    exact Nat.le_of_eq this.symm
theorem itOk_lst {H0 : Hp} {ρ0 : List Addr} {n : Nat} {xs : List D} {a : Addr} (e : ρ0[n]? = some a) : ItOk CA X H0 ρ0 (.lst n xs) (Itl X.K a) := by
  intro i H ρ M s R st
  have q : M[n]? = some (.lst xs) := by
    simpa [Src.stands] using st
  obtain ⟨b, vs, e1, e2, r⟩ := R.lst' q
  have e3 := prefix_get s.pre e
  rw [e1] at e3
  cases e3
  refine ⟨fun d hd => ?_, fun hi => ⟨vs, SqL.of e2, by rw [RVs.length r]; exact Nat.le_of_eq hi.symm⟩⟩
  obtain ⟨v, e4, r4⟩ := RVs.get r hd
  refine ⟨⟨vs, v, SqL.of e2, e4⟩, fun x H' ⟨e5, e6⟩ => ⟨e5, ?_⟩⟩
  have := e6 vs (SqL.of e2)
  rw [e4] at this
  cases this
  exact r4
theorem itOk_tup {H0 : Hp} {ρ0 : List Addr} {M0 : Store} {xs : List D} {vs : List V} {a : Addr} (R0 : RS CA X.K H0 ρ0 M0) (e : H0 a = some (.tup vs)) (r0 : RVs X.K H0 ρ0 xs vs) : ItOk CA X H0 ρ0 (.its xs) (Itt X.K a) := by
  intro i H ρ M s R st
  have e2 : H a = some (.tup vs) := sqT_mono R0 s e
  have r := RVs.mono R0 s _ _ r0
  refine ⟨fun d hd => ?_, fun hi => ⟨vs, SqT.of e2, by rw [RVs.length r]; exact Nat.le_of_eq hi.symm⟩⟩
  obtain ⟨v, e4, r4⟩ := RVs.get r hd
  refine ⟨⟨vs, v, SqT.of e2, e4⟩, fun x H' ⟨e5, e6⟩ => ⟨e5, ?_⟩⟩
  have := e6 vs (SqT.of e2)
  rw [e4] at this
  cases this
  exact r4
theorem itOk_rol {H0 : Hp} {ρ0 : List Addr} {M0 : Store} {xs : List Int} {a : Addr} (R0 : RS CA X.K H0 ρ0 M0) (e : FrzL X.K H0 a (xs.map V.int)) : ItOk CA X H0 ρ0 (.its (xs.map D.int)) (Itl X.K a) := by
  intro i H ρ M s R st
  have e2 := (frzL_mono R0 s e).sq
  have r : RVs X.K H ρ (xs.map D.int) (xs.map V.int) := RVs.of_ints
  refine ⟨fun d hd => ?_, fun hi => ⟨_, e2, by rw [RVs.length r]; exact Nat.le_of_eq hi.symm⟩⟩
  obtain ⟨v, e4, r4⟩ := RVs.get r hd
  refine ⟨⟨_, v, e2, e4⟩, fun x H' ⟨e5, e6⟩ => ⟨e5, ?_⟩⟩
  have := e6 _ e2
  rw [e4] at this
  cases this
  exact r4
theorem itOk_str {H0 : Hp} {ρ0 : List Addr} {z : Str} : ItOk CA X H0 ρ0 (.its (z.cps.toList.map fun c => .str ⟨#[c]⟩)) (Its z) := by
  intro i H ρ M s R st
  refine ⟨fun d hd => ?_, fun hi => ?_⟩
  · have hd' : (z.cps.toList.map fun c => D.str ⟨#[c]⟩)[i]? = some d := hd
    rw [List.getElem?_map] at hd'
    cases q : z.cps.toList[i]? with
    | none => rw [q] at hd'; cases hd'
    | some c =>
      rw [q] at hd'
      cases hd'
      rw [Array.getElem?_toList] at q
      refine ⟨(Array.getElem?_eq_some_iff.mp q).1, fun x H' ⟨e5, k, e6, e7⟩ => ⟨e5, ?_⟩⟩
      rw [q] at e6
      cases e6
      rw [e7]
      exact of_str
  · have : i = z.cps.size := by simpa [Src.items] using hi
    exact Nat.le_of_eq this.symm
theorem SE.src {tg e : Expr} {f : Env → Store → Out D} (h : SE CA X W e f) : SI CA X W tg e fun env M => (f env M).bind fun x M1 => srcOf M1 x := by
  intro σ H ρ env M R rel p
  have p1 := p.bind
  have fin : ∀ (wi : TE → TI), (∀ tl, PE X e tl → PI X tg e (wi tl)) → (∀ σ H, wi (TMX X e) σ H R = TMX X e σ H (fun x H1 => wi (fun _ H Q => Q x H) σ H1 R)) → (∀ d M1 H1 ρ1, f env M = .ok d M1 → St8 H ρ H1 ρ1 → RS CA X.K H1 ρ1 M1 → Post CA X.K W σ H1 ρ1 (srcOf M1 d) (fun s _ H' ρ' => ∀ J, ItOk CA X H' ρ' s J → R J H') → ∀ v, RV X.K H1 ρ1 d v → wi (fun _ H Q => Q v H) σ H1 R) → TMI X tg e σ H R :=
    fun wi h1 h2 h3 => tm_pi (h1 _ (pe_tm X e)) (by
      rw [h2]
      exact h σ H ρ env M _ rel (p1.mono fun d M1 H1 ρ1 eo s1 R1 pp v hv => h3 d M1 H1 ρ1 eo s1 R1 pp v hv))
  cases hf : f env M with
  | bad => rw [hf] at p1; exact p1.elim
  | exc c fs M1 =>
    exact fin (iList X.K) (fun tl h => pi_list h) (fun _ _ => rfl) fun d M1 H1 ρ1 eo => by rw [hf] at eo; cases eo
  | ok d M1 =>
    cases d with
    | loc n =>
      refine fin (iList X.K) (fun tl h => pi_list h) (fun _ _ => rfl) fun d M1 H1 ρ1 eo s1 R1 pp v hv => ?_
      rw [hf] at eo
      cases eo
      simp only [srcOf] at pp
      split at pp
      · rename_i xs q
        obtain ⟨a, vs, rfl, ea, e2, r⟩ := rv_lst R1 hv q
        exact ⟨a, rfl, ⟨vs, SqL.of e2⟩, pp.here R1 _ (itOk_lst ea)⟩
      · exact pp.elim
    | tup xs =>
      refine fin (iTup X.K) (fun tl h => pi_tup h) (fun _ _ => rfl) fun d M1 H1 ρ1 eo s1 R1 pp v hv => ?_
      rw [hf] at eo
      cases eo
      obtain ⟨a, vs, rfl, e2, r⟩ := rv_tup hv
      exact ⟨a, rfl, ⟨vs, SqT.of e2⟩, pp.here R1 _ (itOk_tup R1 e2 r)⟩
    | rol xs =>
      refine fin (iList X.K) (fun tl h => pi_list h) (fun _ _ => rfl) fun d M1 H1 ρ1 eo s1 R1 pp v hv => ?_
      rw [hf] at eo
      cases eo
      obtain ⟨a, rfl, e2⟩ := rv_rol hv
      exact ⟨a, rfl, ⟨_, e2.sq⟩, pp.here R1 _ (itOk_rol R1 e2)⟩
    | str z =>
      refine fin iStr (fun tl h => pi_str h) (fun _ _ => rfl) fun d M1 H1 ρ1 eo s1 R1 pp v hv => ?_
      rw [hf] at eo
      cases eo
      exact ⟨z, rv_str hv, pp.here R1 _ itOk_str⟩
    | _ =>
      refine fin (iList X.K) (fun tl h => pi_list h) (fun _ _ => rfl) fun d M1 H1 ρ1 eo s1 R1 pp v hv => ?_
      rw [hf] at eo
      cases eo
      exact pp.elim
end
/-! ### all that an expression may be -/
structure All (CA : Ca) (X : Cx) (W : WX) (s : Sem) (m : Mt) : Prop where
  e : ∀ e, m.e e = true → SE CA X W e s.e
  t : ∀ e, m.e e = true → ST CA X W e s.t
  a : ∀ es, m.a es = true → SA CA X W es s.a
  bo : ∀ op vs, m.bo op vs = true → ∀ pos, SE CA X W (.BoolOp op vs pos) s.e ∧ SW CA X W (.BoolOp op vs pos) s.t
  p : ∀ o, m.p o = true → SPt CA X W o s.p
  i : ∀ tg e, m.i e = true → SI CA X W tg e s.i
  c : ∀ l, m.c l = true → (l = [] ∧ ∀ env M, s.c env M = .ok true M) ∨ ∃ e, l = [e] ∧ ST CA X W e s.c
  n : ∀ es env M ds M1, m.a es = true → s.a env M = .ok ds M1 → ds.length = es.length
  z : ∀ es, m.a es = true → es = [] → ∀ env M, s.a env M = .ok [] M
section
variable {CA : Ca} {X : Cx} {W : WX}
theorem SE.bo1 {e : Expr} {f : Env → Store → Out D} (h : SE CA X W e f) (op : BoolOp) (pos : Pos) : SE CA X W (.BoolOp op [e] pos) f := fun σ H ρ env M Q rel p => tm_pe (pe_one (pe_tm X e)) (h σ H ρ env M Q rel p)
theorem ST.bo1 {e : Expr} {f : Env → Store → Out Bool} (h : ST CA X W e f) (op : BoolOp) (pos : Pos) : SW CA X W (.BoolOp op [e] pos) f := fun σ H ρ env M Q rel p => by
  cases op with
  | And => exact tm_pw (pw_and1 (pt_tm X e)) (h σ H ρ env M Q rel p)
  | Or => exact tm_pw (pw_or1 (pt_tm X e)) (h σ H ρ env M Q rel p)
theorem All.mk' {g : Env → Store → Out D} {t : Env → Store → Out Bool} {f : Expr → Bool} (he : ∀ e, f e = true → SE CA X W e g) (ht : ∀ e, f e = true → ST CA X W e t) : All CA X W (semT g t) (mtE f) where
  e := he
  t := ht
  a := fun es h => by cases h
  bo := fun op vs h pos => by
    cases vs with
    | nil => cases h
    | cons v r =>
      cases r with
      | nil => exact ⟨(he v h).bo1 op pos, (ht v h).bo1 op pos⟩
      | cons _ _ => cases h
  p := fun o h => by
    cases o with
    | none => cases h
    | some x => exact (he x (Bool.and_eq_true_iff.mp h).1).part
  i := fun tg e h => (he e (Bool.and_eq_true_iff.mp h).1).src
  c := fun l h => by
    cases l with
    | nil => cases h
    | cons v r =>
      cases r with
      | nil => exact .inr ⟨v, rfl, ht v h⟩
      | cons _ _ => cases h
  n := fun es env M ds M1 h => by cases h
  z := fun es h => by cases h
theorem All.val {g : Env → Store → Out D} {f : Expr → Bool} (he : ∀ e, f e = true → SE CA X W e g ∧ nbl e = true) : All CA X W (semE g) (mtE f) :=
  All.mk' (g := g) (t := fun e M => (g e M).bind fun x M1 => ofO (truD M1 x) M1) (fun e h => (he e h).1) fun e h => (he e h).1.test (he e h).2
theorem All.none {s : Sem} : All CA X W s (mtE fun _ => false) where
  e := fun e h => by cases h
  t := fun e h => by cases h
  a := fun es h => by cases h
  bo := fun op vs h pos => by
    cases vs with
    | nil => cases h
    | cons v r => cases r <;> cases h
  p := fun o h => by cases o <;> cases h
  i := fun tg e h => by cases h
  c := fun l h => by
    cases l with
    | nil => cases h
    | cons v r => cases r <;> cases h
  n := fun es env M ds M1 h => by cases h
  z := fun es h => by cases h
/-! small ones -/
theorem SE.const {e : Expr} {v : V} {d : D} (h : PE X e (tC v)) (r : ∀ H ρ, RV X.K H ρ d v) : SE CA X W e fun _ M => .ok d M := fun σ H ρ env M Q rel p => tm_pe h (p.here rel.st v (r H ρ))
/-- two in a row -/
theorem SE.two {a b : Expr} {fa fb : Env → Store → Out D} (ha : SE CA X W a fa) (hb : SE CA X W b fb) {g : D → D → Store → Out D} {r : R2} {σ : L2.St} {H : Hp} {ρ : List Addr} {env : Env} {M : Store} {Q : VK} (rel : Rel CA X.K H ρ env σ M)
    (p : Post CA X.K W σ H ρ ((fa env M).bind fun x M1 => (fb env M1).bind fun y M2 => g x y M2) (kV' X.K Q))
    (hg : ∀ x y M2 H2 ρ2 v w, St8 H ρ H2 ρ2 → RS CA X.K H2 ρ2 M2 → RV X.K H2 ρ2 x v → RV X.K H2 ρ2 y w → Post CA X.K W σ H2 ρ2 (g x y M2) (kV' X.K Q) → r v w H2 Q) : tOp r (TMX X a) (TMX X b) σ H Q := by
  refine ha σ H ρ env M _ rel (p.bind.mono fun x M1 H1 ρ1 _ s1 R1 p1 v hv => ?_)
  refine hb σ H1 ρ1 env M1 _ (rel.next s1 R1) (p1.bind.mono fun y M2 H2 ρ2 _ s2 R2 p2 w hw => ?_)
  exact hg x y M2 H2 ρ2 v w (s1.trans s2) R2 (RV.mono R1 s2 _ _ hv) hw p2
end
end Dv
end

section
set_option Elab.async false
set_option autoImplicit false
set_option linter.all false
set_option maxRecDepth 100000
set_option maxHeartbeats 4000000
/-! DvL: targets, comprehensions. -/
namespace Dv
open PySem L2
/-! ### targets -/
def gNames : List Nat → TGs
  | [] => gNil
  | i :: r => gCons (gName i) (gNames r)
def gT (K : PySem.W.Frag) (tg : List Nat) (sole : Bool) : TG := match sole, tg with
  | true, [i] => gName i
  | _, _ => gTup K tg.length (gNames tg)
theorem names_each : ∀ {es : List Expr} {env : PySem.Env}, (∀ e ∈ es, ∃ y p, e = .Name y p) → (assignEach es env).length = es.length ∧ (assignEach es env).findIdx? (·.1) = none
  | [], _, _ => ⟨rfl, rfl⟩
  | e :: es, env, h => by
    obtain ⟨y, p, rfl⟩ := h e List.mem_cons_self
    obtain ⟨h1, h2⟩ := names_each (env := env) fun e he => h e (List.mem_cons_of_mem _ he)
    refine ⟨congrArg Nat.succ h1, ?_⟩
    show ((false, assign (.Name y p) env) :: assignEach es env).findIdx? (·.1) = none
    rw [List.findIdx?_cons, h2]
    rfl
section
variable {X : Cx}
theorem pgs_names (nd : X.N.Nodup) : ∀ {es : List Expr} {tg : List Nat}, es.length = tg.length → (∀ q ∈ es.zip tg, ∃ y p, q.1 = .Name y p ∧ X.N[q.2]? = some y ∧ Loc X.env.scope y ∧ (X.fn y = true ∨ X.env.scope.names.lookup y = some .local)) → PGs X es (gNames tg)
  | [], [], _, _ => pgs_nil
  | [], _ :: _, h, _ => by cases h
  | _ :: _, [], h, _ => by cases h
  | e :: es, i :: tg, h, hz => by
    obtain ⟨y, p, e1, e2, e3, e4⟩ := hz (e, i) List.mem_cons_self
    cases e1
    exact pgs_cons (pg_name nd e2 e3 e4) (pgs_names nd (Nat.succ.inj h) fun q hq => hz q (List.mem_cons_of_mem _ hq)) rfl
theorem lcl_both {fc : Bool} (hf : fc = true → ∀ y, X.fn y = true) {y : Str} (h : lclB fc X.env.scope y = true) : Loc X.env.scope y ∧ (X.fn y = true ∨ X.env.scope.names.lookup y = some .local) := by
  rcases lclB_ok h with h | ⟨h, e⟩
  · exact ⟨.inl h, .inr h⟩
  · exact ⟨.inr h, .inl (hf e y)⟩
theorem tgM_ok {fc : Bool} (hf : fc = true → ∀ y, X.fn y = true) (nd : X.N.Nodup) (hc : X.calm = true) {tg : List Nat} {sole : Bool} {x : Expr} (h : tgM X.N fc X.env.scope tg sole x = true) : PG X x (gT X.K tg sole) := by
  unfold tgM at h
  cases sole with
  | true =>
    simp only at h
    split at h
    · obtain ⟨h1, h2⟩ := Bool.and_eq_true_iff.mp h
      have l := lcl_both hf h2
      exact pg_name nd (of_decide_eq_true h1) l.1 l.2
    · cases h
  | false =>
    simp only at h
    split at h
    · rename_i es kk pos
      obtain ⟨h1, h2⟩ := Bool.and_eq_true_iff.mp h
      have hl : es.length = tg.length := of_decide_eq_true h1
      have hz : ∀ q ∈ es.zip tg, ∃ y p, q.1 = .Name y p ∧ X.N[q.2]? = some y ∧ Loc X.env.scope y ∧ (X.fn y = true ∨ X.env.scope.names.lookup y = some .local) := fun q hq => by
        have := List.all_eq_true.mp h2 q hq
        split at this
        · rename_i y p e
          obtain ⟨a, b⟩ := Bool.and_eq_true_iff.mp this
          exact ⟨y, p, e, of_decide_eq_true a, lcl_both hf b⟩
        · cases this
      have hn : ∀ e ∈ es, ∃ y p, e = .Name y p := fun e he => by
        obtain ⟨n, hn, rfl⟩ := List.mem_iff_getElem.mp he
        obtain ⟨y, p, e, _⟩ := hz (es[n], tg[n]'(hl ▸ hn)) (List.mem_iff_getElem.mpr ⟨n, by rw [List.length_zip]; omega, by rw [List.getElem_zip]⟩)
        exact ⟨y, p, e⟩
      obtain ⟨n1, n2⟩ := names_each (env := X.env) hn
      have := pg_tup (X := X) (k := kk) (pos := pos) hc (pgs_names nd hl hz) n1 n2
      rw [hl] at this
      cases tg with
      | nil => exact this
      | cons i r => cases r <;> exact this
    · cases h
end
theorem wipe_set {σ : L2.St} {x : Option V} : ∀ {vs : List Nat} {i : Nat}, i ∈ vs → wipe (σ.set i x) vs = wipe σ vs
  | [], _, h => by cases h
  | v :: vs, i, h => by
    unfold wipe
    by_cases hi : i ∈ vs
    · rw [wipe_set hi]
    · have e : i = v := by
        rcases List.mem_cons.mp h with e | h
        · exact e
        · exact absurd h hi
      subst e
      have key : ∀ (vs : List Nat) (σ : L2.St), i ∉ vs → wipe (σ.set i x) vs = (wipe σ vs).set i x := by
        intro vs
        induction vs with
        | nil => intro σ _; rfl
        | cons w vs ih =>
          intro σ h
          unfold wipe
          rw [ih σ fun z => h (List.mem_cons_of_mem _ z)]
          exact List.set_comm _ _ (fun z => h (z ▸ List.mem_cons_self))
      rw [key vs σ hi, List.set_set]
theorem wipe_wipe (σ : L2.St) (vs : List Nat) : wipe (wipe σ vs) vs = wipe σ vs := by
  have key : ∀ (us vs : List Nat) (σ : L2.St), (∀ u ∈ us, u ∈ vs) → wipe (wipe σ us) vs = wipe σ vs := by
    intro us
    induction us with
    | nil => intro vs σ _; rfl
    | cons u us ih =>
      intro vs σ h
      show wipe ((wipe σ us).set u none) vs = wipe σ vs
      rw [wipe_set (h u List.mem_cons_self)]
      exact ih vs σ fun w hw => h w (List.mem_cons_of_mem _ hw)
  exact key vs vs σ fun _ h => h
section
variable {K : PySem.W.Frag} {H : Hp} {ρ : List Addr}
theorem RE.wipe {e : Env} {σ : L2.St} (r : RE K H ρ e σ) : ∀ vs : List Nat, RE K H ρ (wipeD e vs) (wipe σ vs)
  | [] => r
  | v :: vs => (RE.wipe r vs).unset v
theorem gNames_ok {vs : List Nat} {Q : L2.St → Hp → Prop} : ∀ {tg : List Nat} {ds : List D} {ws : List V} {e e' : Env} {σ : L2.St}, RVs K H ρ ds ws → bindN tg ds e = some e' → RE K H ρ e σ →
    (∀ σ', RE K H ρ e' σ' → ((∀ i ∈ tg, i ∈ vs) → L2.wipe σ' vs = L2.wipe σ vs) → Q σ' H) → gNames tg ws σ H Q
  | [], [], ws, e, e', σ, r, b, re, q => by
    simp only [RVs] at r
    subst r
    simp only [bindN] at b
    cases b
    exact ⟨rfl, q σ re fun _ => rfl⟩
  | [], _ :: _, _, _, _, _, _, b, _, _ => by simp only [bindN] at b; cases b
  | _ :: _, [], _, _, _, _, _, b, _, _ => by simp only [bindN] at b; cases b
  | i :: tg, d :: ds, ws, e, e', σ, r, b, re, q => by
    simp only [RVs] at r
    obtain ⟨v, r', rfl, h1, h2⟩ := r
    simp only [bindN] at b
    refine ⟨v, r', rfl, ?_⟩
    refine gNames_ok (vs := vs) h2 b (re.set i h1) fun σ' re' hw => q σ' re' fun hi => ?_
    rw [hw fun j hj => hi j (List.mem_cons_of_mem _ hj), wipe_set (hi i List.mem_cons_self)]
theorem gT_ok {vs : List Nat} {Q : L2.St → Hp → Prop} {tg : List Nat} {sole : Bool} {d : D} {v : V} {e e' : Env} {σ : L2.St} (r : RV K H ρ d v) (b : bindT tg sole d e = some e') (re : RE K H ρ e σ)
    (q : ∀ σ', RE K H ρ e' σ' → ((∀ i ∈ tg, i ∈ vs) → L2.wipe σ' vs = L2.wipe σ vs) → Q σ' H) : gT K tg sole v σ H Q := by
  unfold bindT at b
  cases sole with
  | true =>
    simp only at b
    split at b
    · cases b
      exact q _ (re.set _ r) fun hi => wipe_set (hi _ List.mem_cons_self)
    · cases b
  | false =>
    simp only at b
    split at b
    · rename_i ds
      obtain ⟨t, ws, rfl, e2, r2⟩ := rv_tup r
      have hl : ∀ {tg : List Nat} {ds : List D} {e e' : Env}, bindN tg ds e = some e' → ds.length = tg.length := by
        intro tg
        induction tg with
        | nil => intro ds e e' b; cases ds <;> simp only [bindN] at b <;> first | rfl | cases b
        | cons i tg ih =>
          intro ds e e' b
          cases ds with
          | nil => simp only [bindN] at b; cases b
          | cons d ds => simp only [bindN] at b; rw [List.length_cons, List.length_cons, ih b]
      have g : gTup K tg.length (gNames tg) (.ref t) σ H Q := ⟨t, ws, rfl, SqT.of e2, by rw [RVs.length r2]; exact hl b, gNames_ok r2 b re q⟩
      cases tg with
      | nil => exact g
      | cons i r => cases r <;> exact g
    · cases b
end
/-! ### a comprehension -/
abbrev W0 : WX := fun _ _ _ _ => False
abbrev blkX (X : Cx) (s2 : Scope) (s : Shared) (H : Hp) (C : Addr) (cl : List (Str × Addr)) (fp : List Addr) : Cx := X.blk s H s2 (PySem.compEnvC s2 cl C X.env) fp
def TEb (X : Cx) (s2 : Scope) (e : Expr) : TE := fun σ H Q => ∀ (s : Shared) (H0 : Hp) (C : Addr) (cl : List (Str × Addr)) (fp : List Addr), TMX (blkX X s2 s H0 C cl fp) e σ H Q
theorem peb {X : Cx} {s2 : Scope} {e : Expr} (s : Shared) (H : Hp) (C : Addr) (cl : List (Str × Addr)) (fp : List Addr) : PE (blkX X s2 s H C cl fp) e (TEb X s2 e) := ⟨fun pins sh _ _ _ I h => h s H C cl fp pins sh I⟩
def TMTs (X : Cx) (ifs : List Expr) : TT := fun σ H Q => ∀ (pins : List (Addr × Obj)) (s : Shared), Inv X pins σ H s →
    wpAny (model X.prog X.w) X.A (forIn ifs true fun c r => if r = true then do let ok ← isTrue c X.env (eval c X.env); pure (ForInStep.yield ok) else pure (ForInStep.yield r)) (TP X pins σ Q) X.xe s
theorem tm_pts {X : Cx} {ifs : List Expr} {t : TT} {σ : L2.St} {H : Hp} {Q : Bool → Hp → Prop} (h : PTs X ifs t) (q : t σ H Q) : TMTs X ifs σ H Q := fun pins s I => h.run pins s σ H Q I q
def TTb (X : Cx) (s2 : Scope) (ifs : List Expr) : TT := fun σ H Q => ∀ (s : Shared) (H0 : Hp) (C : Addr) (cl : List (Str × Addr)) (fp : List Addr), TMTs (blkX X s2 s H0 C cl fp) ifs σ H Q
theorem ptb {X : Cx} {s2 : Scope} {ifs : List Expr} (s : Shared) (H : Hp) (C : Addr) (cl : List (Str × Addr)) (fp : List Addr) : PTs (blkX X s2 s H C cl fp) ifs (TTb X s2 ifs) := ⟨fun pins sh _ _ _ I h => h s H C cl fp pins sh I⟩
/-- tests, by values -/
theorem Out.bind_assoc {α β γ : Type} (o : Out α) (f : α → Store → Out β) (g : β → Store → Out γ) : (o.bind f).bind g = o.bind fun a M => (f a M).bind g := by
  cases o <;> rfl
def STs (CA : Ca) (X : Cx) (W : WX) (l : List Expr) (f : Env → Store → Out Bool) : Prop := (l = [] ∧ ∀ env M, f env M = .ok true M) ∨ ∃ e, l = [e] ∧ ST CA X W e f
section
variable {CA : Ca} {X : Cx} {W : WX} {H H' : Hp} {ρ ρ' : List Addr} {M : Store}
theorem STs.ok {l : List Expr} {f : Env → Store → Out Bool} (h : STs CA X W l f) {σ : L2.St} {env : Env} {Q : Bool → Hp → Prop} (rel : Rel CA X.K H ρ env σ M) (p : Post CA X.K W σ H ρ (f env M) (fun b _ H' _ => Q b H')) : TMTs X l σ H Q := by
  rcases h with ⟨rfl, e⟩ | ⟨e, rfl, h⟩
  · rw [e] at p
    exact tm_pts pts_nil (p.here rel.st)
  · exact tm_pts (pts_one (pt_tm X e)) (h σ H ρ env M Q rel p)
/-- what tuples and read lists are, is -/
structure Kp (H H' : Hp) : Prop where
  t : ∀ a xs, H a = some (.tup xs) → H' a = some (.tup xs)
  f : ∀ a o u, H a = some (.frz o u) → H' a = some (.frz o u)
mutual
theorem RV.keep {K : PySem.W.Frag} (k : Kp H H') (pr : ρ <+: ρ') : ∀ (d : D) (v : V), RV K H ρ d v → RV K H' ρ' d v
  | .non, v, h => by simp only [RV] at h ⊢; exact h
  | .bl b, v, h => by simp only [RV] at h ⊢; exact h
  | .int i, v, h => by simp only [RV] at h ⊢; exact h
  | .str z, v, h => by simp only [RV] at h ⊢; exact h
  | .loc n, v, h => by
    simp only [RV] at h ⊢
    obtain ⟨a, e, rfl⟩ := h
    exact ⟨a, prefix_get pr e, rfl⟩
  | .rol xs, v, h => by
    simp only [RV] at h ⊢
    obtain ⟨a, rfl, e⟩ := h
    refine ⟨a, rfl, ?_⟩
    rcases e with ⟨o, e⟩ | e
    · exact .inl ⟨o, k.f _ _ _ e⟩
    · exact .inr e
  | .tup ds, v, h => by
    simp only [RV] at h ⊢
    obtain ⟨t, vs, rfl, e, r⟩ := h
    exact ⟨t, vs, rfl, k.t _ _ e, RVs.keep k pr ds vs r⟩
  | .ktp xs, v, h => by simp only [RV] at h ⊢; exact h
theorem RVs.keep {K : PySem.W.Frag} (k : Kp H H') (pr : ρ <+: ρ') : ∀ (ds : List D) (vs : List V), RVs K H ρ ds vs → RVs K H' ρ' ds vs
  | [], vs, h => by simp only [RVs] at h ⊢; exact h
  | d :: ds, vs, h => by
    simp only [RVs] at h ⊢
    obtain ⟨v, r, rfl, h1, h2⟩ := h
    exact ⟨v, r, rfl, RV.keep k pr d v h1, RVs.keep k pr ds r h2⟩
end
theorem RO.keep {K : PySem.W.Frag} (k : Kp H H') (pr : ρ <+: ρ') {o : Ob} {h : HO} (x : RO CA K H ρ o h) : RO CA K H' ρ' o h := by
  cases o with
  | lst ds => obtain ⟨vs, e, r⟩ := x; exact ⟨vs, e, RVs.keep k pr _ _ r⟩
  | dct kvs => obtain ⟨vs, e, e2, r⟩ := x; exact ⟨vs, e, e2, RVs.keep k pr _ _ r⟩
  | dtt kvs => obtain ⟨vs, e, e2, r⟩ := x; exact ⟨vs, e, e2, RVs.keep k pr _ _ r⟩
  | ins c fs => obtain ⟨dx, vs, e, e2, r⟩ := x; exact ⟨dx, vs, e, e2, RVs.keep k pr _ _ r⟩
theorem kp_upd {D : Addr} {xs : List V} {o : HO} (h : H D = some (.lst xs)) : Kp H (upd H D o) where
  t := fun a ys e => by
    rw [upd_ne]
    · exact e
    · rintro rfl
      rw [h] at e
      cases e
  f := fun a ob u e => by
    rw [upd_ne]
    · exact e
    · rintro rfl
      rw [h] at e
      cases e
theorem RS.keep {K : PySem.W.Frag} (R : RS CA K H ρ M) {D : Addr} {xs : List V} {o : HO} (h : H D = some (.lst xs)) (n : D ∉ ρ) : RS CA K (upd H D o) ρ M := by
  refine ⟨R.len, R.nd, fun i ob e => ?_⟩
  obtain ⟨a, u, e1, e2, e3⟩ := R.at_ i ob e
  refine ⟨a, u, e1, ?_, RO.keep (kp_upd h) (List.prefix_refl _) e3⟩
  rw [upd_ne]
  · exact e2
  · rintro rfl
    exact n (List.mem_of_getElem? e1)
/-- the new list is taken up -/
theorem RS.adopt {K : PySem.W.Frag} (R : RS CA K H ρ M) {D : Addr} {xs : List V} {ds : List Dv.D} (h : H D = some (.lst xs)) (n : D ∉ ρ) (r : RVs K H ρ ds xs) : RS CA K H (ρ ++ [D]) (M ++ [.lst ds]) := by
  have kp : Kp H H := ⟨fun _ _ h => h, fun _ _ _ h => h⟩
  have pr : ρ <+: ρ ++ [D] := ⟨[D], rfl⟩
  refine ⟨by simp [R.len], ?_, fun i u e => ?_⟩
  · rw [List.nodup_append]
    refine ⟨R.nd, by simp, fun a ha b hb => ?_⟩
    have e : b = D := by simpa using hb
    rintro rfl
    exact n (e ▸ ha)
  · by_cases hn : i < M.length
    · rw [List.getElem?_append_left hn] at e
      obtain ⟨a, u, e1, e2, e3⟩ := R.at_ i u e
      exact ⟨a, u, prefix_get pr e1, e2, RO.keep kp pr e3⟩
    · have hl : i = M.length := by
        have := (List.getElem?_eq_some_iff.mp e).1
        simp at this
        omega
      subst hl
      rw [List.getElem?_append_right (Nat.le_refl _)] at e
      simp at e
      subst e
      refine ⟨D, .lst xs, ?_, h, xs, rfl, RVs.keep kp pr _ _ r⟩
      rw [← R.len, List.getElem?_append_right (Nat.le_refl _)]
      simp
/-- what is wanted, from an earlier place -/
theorem Post.nox {α β : Type} {σ : L2.St} {H1 : Hp} {ρ1 : List Addr} {o : Out α} {g : α → Store → Out β} {k : β → Store → Hp → List Addr → Prop} {k' : α → Store → Hp → List Addr → Prop} (p : Post CA X.K W σ H ρ (o.nox.bind g) k) (h : ∀ a M1 H2 ρ2, o = .ok a M1 → St8 H1 ρ1 H2 ρ2 → RS CA X.K H2 ρ2 M1 → Post CA X.K W σ H ρ (g a M1) k → k' a M1 H2 ρ2) {σ' : L2.St} : Post CA X.K W0 σ' H1 ρ1 o k' := by
  cases o with
  | ok a M1 => exact fun H2 ρ2 s R => h a M1 H2 ρ2 rfl s R p
  | exc c fs M1 => exact p.elim
  | bad => exact p.elim
theorem lc_t {elt tgx it : Expr} {ifs : List Expr} {s2 : Scope} {own : List (Str × Nat)} {tg : List Nat} {sole : Bool} {fi : Env → Store → Out Src} {fc : Env → Store → Out Bool} {fe : Env → Store → Out D} 
    (hi : SI CA X W tgx it fi) (hown : ∀ i ∈ tg, i ∈ own.map (·.2)) 
    (ht : ∀ (s : Shared) (H : Hp) (C : Addr) (cl : List (Str × Addr)) (fp : List Addr), STs CA (blkX X s2 s H C cl fp) W0 ifs fc) (he : ∀ (s : Shared) (H : Hp) (C : Addr) (cl : List (Str × Addr)) (fp : List Addr), SE CA (blkX X s2 s H C cl fp) W0 elt fe)
    (hsg : ∀ σ H, CA.sg σ H)
    {σ : L2.St} {ρ : List Addr} {env : Env} {M : Store} {Q : VK} (rel : Rel CA X.K H ρ env σ M)
    (p : Post CA X.K W σ H ρ ((fi env M).bind fun s M1 => (compL s tg sole (wipeD env (own.map (·.2))) fc fe s.items [] M1).bind fun xs M2 => lstG M2 xs) (kV' X.K Q)) :
    tLc (TMI X tgx it) (gT X.K tg sole) (TTb X s2 ifs) (TEb X s2 elt) (own.map (·.2)) σ H Q := by
  refine hi σ H ρ env M _ rel (p.bind.mono fun s M1 H1 ρ1 _ s1 R1 p1 J iok D hD => ?_)
  generalize hvs : own.map (·.2) = vs at p1 hown ⊢
  have rel1 := rel.next s1 R1
  have nD : D ∉ ρ1 := fun m => by
    obtain ⟨o, e, _⟩ := R1.obj m
    rw [hD] at e
    cases e
  refine ⟨fun i m H' => i ≤ s.items.length ∧ m = s.items.length - i ∧ ∃ ρ' M' acc accV, St8 H1 ρ1 H' ρ' ∧ RS CA X.K H' ρ' M' ∧ D ∉ ρ' ∧ H' D = some (.lst accV) ∧ RVs X.K H' ρ' acc accV ∧
    Post CA X.K W σ H1 ρ1 ((compL s tg sole (wipeD env vs) fc fe (s.items.drop i) acc M').bind fun xs M2 => lstG M2 xs) (kV' X.K Q), ⟨s.items.length, Nat.zero_le _, by simp, ρ1, M1, [], [], St8.lay hD, R1.lay hD, nD, upd_same, RVs.nil, p1⟩, ?_⟩
  rintro i m H' ⟨hi, rfl, ρ', M', acc, accV, s', R', n', eD, ra, pp⟩
  by_cases hlt : i < s.items.length
  · rw [List.drop_eq_getElem_cons hlt] at pp
    unfold compL at pp
    by_cases st : s.stands M' = true
    · rw [if_pos st] at pp
      split at pp
      · rename_i e' be
        have it := (iok i H' ρ' M' s' R' st).1 s.items[i] (List.getElem?_eq_getElem hlt)
        refine .inr ⟨it.1, fun H'' => ∃ ρ' M' acc accV, St8 H1 ρ1 H'' ρ' ∧ RS CA X.K H'' ρ' M' ∧ D ∉ ρ' ∧ H'' D = some (.lst accV) ∧ RVs X.K H'' ρ' acc accV ∧
          Post CA X.K W σ H1 ρ1 ((compL s tg sole (wipeD env vs) fc fe (s.items.drop (i + 1)) acc M').bind fun xs M2 => lstG M2 xs) (kV' X.K Q), fun H'' z => ⟨_, by omega, hlt, rfl, z⟩, fun x H'' y => ?_⟩
        obtain ⟨rfl, rx⟩ := it.2 x H'' y
        have rel' := rel1.next s' R'
        refine gT_ok (vs := vs) rx be (rel'.en.wipe vs) fun σ' re' hw => ⟨(hw hown).trans (wipe_wipe σ vs), ?_⟩
        have rb : Rel CA X.K H'' ρ' e' σ' M' := ⟨R', re', hsg _ _⟩
        rw [Out.bind_assoc] at pp
        intro z1 z2 z3 z4 z5
        refine (ht z1 z2 z3 z4 z5).ok rb (Post.nox pp fun b M2 H2 ρ2 _ s2 R2 p2 => ?_)
        have eD2 : H2 D = some (.lst accV) := s2.frm _ _ eD n'
        have n2 : D ∉ ρ2 := fun m => by
          rcases s2.new D m with z | z
          · exact n' z
          · rw [eD] at z; cases z
        have ra2 := RVs.mono R' s2 _ _ ra
        cases b with
        | false => exact ⟨ρ2, M2, acc, accV, s'.trans s2, R2, n2, eD2, ra2, p2⟩
        | true =>
          have p2 : Post CA X.K W σ H1 ρ1 (((fe e' M2).nox.bind fun d M2 => if acc.length < sizeLine then compL s tg sole (wipeD env vs) fc fe (s.items.drop (i + 1)) (acc ++ [d]) M2 else .bad).bind fun xs M2 => lstG M2 xs) (kV' X.K Q) := p2
          rw [Out.bind_assoc] at p2
          show TEb X _ elt σ' H2 _
          intro z1 z2 z3 z4 z5
          refine he z1 z2 z3 z4 z5 σ' H2 ρ2 e' M2 _ (rb.next s2 R2) (Post.nox p2 fun d M3 H3 ρ3 _ s3 R3 p3 yv ry => ?_)
          have eD3 : H3 D = some (.lst accV) := s3.frm _ _ eD2 n2
          have n3 : D ∉ ρ3 := fun m => by
            rcases s3.new D m with z | z
            · exact n2 z
            · rw [eD2] at z; cases z
          have ra3 := RVs.mono R2 s3 _ _ ra2
          by_cases hz : acc.length < sizeLine
          · rw [if_pos hz] at p3
            have kp : Kp H3 (upd H3 D (.lst (accV ++ [yv]))) := kp_upd eD3
            refine ⟨accV, eD3, by rw [RVs.length ra3]; exact hz, ρ3, M3, acc ++ [d], accV ++ [yv], ?_, RS.keep R3 eD3 n3, n3, upd_same, RVs.keep kp (List.prefix_refl _) _ _ (RVs.app ra3 (RVs.cons ry RVs.nil)), p3⟩
            have s13 := (s'.trans s2).trans s3
            have fr : ∀ a o, H1 a = some o → a ∉ ρ1 → upd H3 D (.lst (accV ++ [yv])) a = some o := fun a o h n => by
              rw [upd_ne]
              · exact s13.frm a o h n
              · rintro rfl
                rw [hD] at h
                cases h
            exact ⟨s13.pre, fr, s13.new⟩
          · rw [if_neg hz] at p3
            exact p3.elim
      · exact pp.elim
    · rw [if_neg st] at pp
      exact pp.elim
  · have e : i = s.items.length := by omega
    subst e
    rw [List.drop_length] at pp
    unfold compL at pp
    by_cases st : s.stands M' = true
    · rw [if_pos st] at pp
      refine .inl ⟨(iok s.items.length H' ρ' M' s' R' st).2 rfl, ?_⟩
      have pp : Post CA X.K W σ H1 ρ1 (lstG M' acc) (kV' X.K Q) := pp
      unfold lstG at pp
      obtain ⟨_, pp⟩ := pp.if_
      have R2 := RS.adopt R' eD n' ra
      refine pp H' (ρ' ++ [D]) ⟨s'.pre.trans ⟨[D], rfl⟩, fun a o h n => s'.frm a o h n, fun a m => ?_⟩ R2 (.ref D) ?_
      · rcases List.mem_append.mp m with m | m
        · exact s'.new a m
        · have e : a = D := by simpa using m
          exact .inr (e ▸ hD)
      · simp only [RV]
        exact ⟨D, by rw [← R'.len]; simp, rfl⟩
    · rw [if_neg st] at pp
      exact pp.elim
theorem lc_se {elt tgx it : Expr} {ifs : List Expr} {s2 : Scope} {own : List (Str × Nat)} {tg : List Nat} {sole : Bool} {fi : Env → Store → Out Src} {fc : Env → Store → Out Bool} {fe : Env → Store → Out D} {pos : Pos} (hc : X.calm = true) (nd : X.N.Nodup)
    (hi : SI CA X W tgx it fi) (ok : BlkOk X.N X.env.scope s2 own) (hown : ∀ i ∈ tg, i ∈ own.map (·.2)) (hg : ∀ (s : Shared) (H : Hp) (C : Addr) (cl : List (Str × Addr)) (fp : List Addr), PG (blkX X s2 s H C cl fp) tgx (gT X.K tg sole))
    (ht : ∀ (s : Shared) (H : Hp) (C : Addr) (cl : List (Str × Addr)) (fp : List Addr), STs CA (blkX X s2 s H C cl fp) W0 ifs fc) (he : ∀ (s : Shared) (H : Hp) (C : Addr) (cl : List (Str × Addr)) (fp : List Addr), SE CA (blkX X s2 s H C cl fp) W0 elt fe)
    (hs : ∀ x, foldedSetIterable it X.env x = pure x) (hsg : ∀ σ H, CA.sg σ H) :
    SE CA X W (.ListComp elt [⟨tgx, it, ifs, 0⟩] s2 pos) fun env M => (fi env M).bind fun s M1 => (compL s tg sole (wipeD env (own.map (·.2))) fc fe s.items [] M1).bind fun xs M2 => lstG M2 xs := by
  intro σ H ρ env M Q rel p
  exact tm_pe (pe_lc hc nd (pi_tm X tgx it) ok hg ptb peb hs) (lc_t hi hown ht he hsg rel p)
end
end Dv
end

section
set_option Elab.async false
set_option autoImplicit false
set_option linter.all false
set_option maxRecDepth 100000
set_option maxHeartbeats 4000000
/-! DvM: an expression that matches is worth what the evaluator says, all forms. -/
namespace Dv
open PySem L2
def IsB (o : Out D) : Prop := ∀ d M, o = .ok d M → ∃ b, d = .bl b
theorem IsB.ok {b : Bool} {M : Store} : IsB (.ok (.bl b) M) := fun d M' e => by cases e; exact ⟨b, rfl⟩
theorem IsB.bad : IsB .bad := fun d M' e => by cases e
theorem IsB.bind {α : Type} {o : Out α} {f : α → Store → Out D} (h : ∀ a M, IsB (f a M)) : IsB (o.bind f) := fun d M e => by
  cases o with
  | ok a M' => exact h a M' d M e
  | exc c fs M' => cases e
  | bad => cases e
theorem IsB.ite {c : Prop} [Decidable c] {a b : Out D} (ha : IsB a) (hb : IsB b) : IsB (if c then a else b) := by
  by_cases h : c
  · rw [if_pos h]; exact ha
  · rw [if_neg h]; exact hb
section
variable {CA : Ca} {X : Cx} {W : WX} {σ : L2.St} {H : Hp} {ρ : List Addr} {M : Store}
theorem Post.tb {o : Out D} {Q : Bool → Hp → Prop} (p : Post CA X.K W σ H ρ (o.bind fun x M1 => Dv.ofO (truD M1 x) M1) (fun b _ H' _ => Q b H')) (h : IsB o) : Post CA X.K W σ H ρ o (kV' X.K fun v H' => ∃ c, v = .bl c ∧ Q c H') := by
  refine p.bind.mono fun d M1 H1 ρ1 e s1 R1 p1 v hv => ?_
  obtain ⟨b, rfl⟩ := h d M1 e
  exact ⟨b, rv_bl hv, p1.here R1⟩
/-- an expression whose value and whose test are one reading -/
theorem All.two {g : Env → Store → Out D} {f : Expr → Bool} (hb : ∀ env M, IsB (g env M))
    (h : ∀ e, f e = true → ∃ t : TE, PE X e t ∧ PT X e (tB t) ∧ ∀ (σ : L2.St) (H : Hp) (ρ : List Addr) (env : Env) (M : Store) (Q : VK), Rel CA X.K H ρ env σ M → Post CA X.K W σ H ρ (g env M) (kV' X.K Q) → t σ H Q) : All CA X W (semE g) (mtE f) :=
  All.mk' (g := g) (t := fun e M => (g e M).bind fun x M1 => ofO (truD M1 x) M1) (fun e he => by
    obtain ⟨t, h1, h2, h3⟩ := h e he
    exact fun σ H ρ env M Q rel p => tm_pe h1 (h3 σ H ρ env M Q rel p)) fun e he => by
    obtain ⟨t, h1, h2, h3⟩ := h e he
    exact fun σ H ρ env M Q rel p => tm_pt h2 (h3 σ H ρ env M _ rel (p.tb (hb env M)))
theorem tm_tw {e : Expr} {σ : L2.St} {H : Hp} {Q : Bool → Hp → Prop} (h : TMW X e σ H Q) : TMT X e σ H Q := fun pins s I => h (eval e X.env) pins s I
theorem Post.cmp {o : Option Bool} {Q : VK} (p : Post CA X.K W σ H ρ ((Dv.ofO o M).bind fun c M3 => .ok (.bl c) M3) (kV' X.K Q)) (R : RS CA X.K H ρ M) : ∃ b, o = some b ∧ Q (.bl b) H := by
  obtain ⟨b, e, p1⟩ := p.bind.ofO
  exact ⟨b, e, (p1.here R).here R _ of_bl⟩
theorem lookup_rv {K : PySem.W.Frag} : ∀ {fs : List (Str × D)} {ws : List (Str × V)} {f : Str} {d : D}, ws.map (·.1) = fs.map (·.1) → RVs K H ρ (fs.map (·.2)) (ws.map (·.2)) → fs.lookup f = some d → ∃ v, ws.lookup f = some v ∧ RV K H ρ d v
  | [], ws, f, d, _, _, h => by cases h
  | (g, x) :: fs, [], f, d, h1, _, _ => by cases h1
  | (g, x) :: fs, (g', y) :: ws, f, d, h1, h2, h => by
    simp only [List.map_cons, List.cons.injEq] at h1
    obtain ⟨rfl, h1⟩ := h1
    simp only [List.map_cons, RVs] at h2
    obtain ⟨v, r, e, h2, h3⟩ := h2
    simp only [List.cons.injEq] at e
    obtain ⟨rfl, rfl⟩ := e
    rw [List.lookup_cons] at h ⊢
    split at h
    · cases h
      exact ⟨_, rfl, h2⟩
    · exact lookup_rv h1 h3 h
theorem lookup_none {fs : List (Str × D)} {ws : List (Str × V)} {f : Str} (h : ws.map (·.1) = fs.map (·.1)) (e : fs.lookup f = none) : ws.lookup f = none := by
  induction fs generalizing ws with
  | nil => cases ws with
    | nil => rfl
    | cons _ _ => cases h
  | cons a fs ih =>
    cases ws with
    | nil => cases h
    | cons b ws =>
      obtain ⟨g, x⟩ := a
      obtain ⟨g', y⟩ := b
      simp only [List.map_cons, List.cons.injEq] at h
      obtain ⟨rfl, h⟩ := h
      rw [List.lookup_cons] at e ⊢
      split at e
      · cases e
      · exact ih h e
theorem boot_biV (b : Bi) : bootBuiltins (biN b) = some (biV b) := by cases b <;> decide +kernel
theorem boot_ty (t : Ty) : bootBuiltins (tyS t) = some (.type (tyN t)) := by cases t <;> decide +kernel
theorem biN_ne (b : Bi) : biN b ≠ "__name__" ∧ (biN b == ("__debug__" : Str)) = false := by cases b <;> decide
theorem tyS_ne (b : Ty) : tyS b ≠ "__name__" ∧ (tyS b == ("__debug__" : Str)) = false := by cases b <;> decide
theorem gl_of {x : Str} (h : gloB X.env.scope x = true) : L2.Gl X x := gloB_ok h
end
/-! ### the cases -/
section
variable {CA : Ca} {X : Cx} {W : WX} {G : Gl} {cl : Cl} {B : Tb} {cu : Option (Nat × List (Str × D))}
theorem Cc.blk (c : Cc G cl cu B CA X W) (hb : B.cm = true) {s2 : Scope} (hk : s2.kind = .function) (s : Shared) (H : Hp) (C : Addr) (cs : List (Str × Addr)) (fp : List Addr) : Cc G cl cu B CA (blkX X s2 s H C cs fp) W0 where
  nd := c.nd
  tk := takes_none5
  un := c.un
  calm := c.calm
  kind := hk
  bln := c.bln
  tyn := c.tyn
  rgn := c.rgn
  isn := c.isn
  con := c.con
  fns := c.fns
  mth := c.mth
  mak := c.mak
  fld := c.fld
  sgc := c.sgc
  cuc := c.cuc
  xcl := c.xcl
  xsb := c.xsb
  xfl := c.xfl
  xc := fun k fs e => by rw [c.cuc hb] at e; cases e
theorem al_nil {sc : Scope} : All CA X W (ev G cl cu .nil) (mm B G X.N .nil sc) where
  e := fun e h => by cases h
  t := fun e h => by cases h
  a := fun es h => by
    cases es with
    | nil => exact fun σ H ρ env M Q rel p => tm_pa pa_nil (p.here rel.st [] RVs.nil)
    | cons _ _ => cases h
  bo := fun op vs h pos => by
    cases vs with
    | nil => cases h
    | cons v r => cases r <;> cases h
  p := fun o h => by
    cases o with
    | none => exact fun σ H ρ env M Q rel p => tm_po po_none (p.here rel.st)
    | some _ => cases h
  i := fun tg e h => by cases h
  c := fun l h => by
    cases l with
    | nil => exact .inl ⟨rfl, fun _ _ => rfl⟩
    | cons _ _ => cases h
  n := fun es env M ds M1 h e => by
    cases es with
    | nil => cases e; rfl
    | cons _ _ => cases h
  z := fun es h _ _ _ => rfl
theorem Out.bind_eq {α β : Type} {o : Out α} {f : α → Store → Out β} {b : β} {M : Store} (h : o.bind f = .ok b M) : ∃ a M1, o = .ok a M1 ∧ f a M1 = .ok b M := by
  cases o with
  | ok a M1 => exact ⟨a, M1, rfl, h⟩
  | exc c fs M1 => cases h
  | bad => cases h
theorem al_cons {x y : E} {sc : Scope} (hx : All CA X W (ev G cl cu x) (mm B G X.N x sc)) (hy : All CA X W (ev G cl cu y) (mm B G X.N y sc)) : All CA X W (ev G cl cu (.cons x y)) (mm B G X.N (.cons x y) sc) where
  e := fun e h => by cases h
  t := fun e h => by cases h
  a := fun es h => by
    cases es with
    | nil => cases h
    | cons e r =>
      have h : (nst e && nsl e && (mm B G X.N x sc).e e && (mm B G X.N y sc).a r) = true := h
      simp only [Bool.and_eq_true] at h
      obtain ⟨⟨⟨h1, h2⟩, h3⟩, h4⟩ := h
      intro σ H ρ env M Q rel p
      refine tm_pa (pa_cons (pe_tm X e) (pa_tm X r) (nst_ok h1 r X.env)) ?_
      refine hx.e e h3 σ H ρ env M _ rel (p.bind.mono fun d M1 H1 ρ1 _ s1 R1 p1 v hv => ?_)
      refine hy.a r h4 σ H1 ρ1 env M1 _ (rel.next s1 R1) (p1.bind.mono fun ds M2 H2 ρ2 _ s2 R2 p2 vs hvs => ?_)
      exact p2.here R2 _ (RVs.cons (RV.mono R1 s2 _ _ hv) hvs)
  bo := fun op vs h pos => by
    cases vs with
    | nil => cases h
    | cons v r => cases r <;> cases h
  p := fun o h => by cases o <;> cases h
  i := fun tg e h => by cases h
  c := fun l h => by
    cases l with
    | nil => cases h
    | cons v r => cases r <;> cases h
  n := fun es env M ds M1 h e => by
    cases es with
    | nil => cases h
    | cons e' r =>
      have h : (nst e' && nsl e' && (mm B G X.N x sc).e e' && (mm B G X.N y sc).a r) = true := h
      simp only [Bool.and_eq_true] at h
      obtain ⟨d, M2, _, e2⟩ := Out.bind_eq e
      obtain ⟨ds', M3, e3, e4⟩ := Out.bind_eq e2
      cases e4
      rw [List.length_cons, List.length_cons, hy.n r env _ _ _ h.2 e3]
  z := fun es h e => by subst e; cases h
theorem al_rng (c : Cc G cl cu B CA X W) {x : E} (hx : All CA X W (ev G cl cu x) (mm B G X.N x X.env.scope)) : All CA X W (ev G cl cu (.rng x)) (mm B G X.N (.rng x) X.env.scope) where
  e := fun e h => by cases h
  t := fun e h => by cases h
  a := fun es h => by cases h
  bo := fun op vs h pos => by
    cases vs with
    | nil => cases h
    | cons v r => cases r <;> cases h
  p := fun o h => by cases o <;> cases h
  i := fun tg e h => by
    have h : (match (generalizing := false) e with | .Call (.Name y _) as [] _ => decide (y = "range") && gloB X.env.scope y && decide (as.length = 1 ∨ as.length = 2) && nsts as && (mm B G X.N x X.env.scope).a as | _ => false) = true := h
    split at h
    · rename_i y as _ _
      simp only [Bool.and_eq_true, decide_eq_true_eq] at h
      obtain ⟨⟨⟨⟨rfl, h2⟩, h3⟩, h4⟩, h5⟩ := h
      intro σ H ρ env M R rel p
      match as, h3, h4, h5 with
      | [a], _, h4, h5 =>
        have n1 := nst_ok (Bool.and_eq_true_iff.mp (show (nst a && nsts []) = true from h4)).1 [] X.env
        refine tm_pi (pi_range1 (gl_of h2) c.rgn (pa_tm X [a]) n1) ?_
        refine hx.a [a] h5 σ H ρ env M _ rel (p.bind.mono fun ds M1 H1 ρ1 eo s1 R1 p1 vs r => ?_)
        have hl := hx.n [a] env M ds M1 h5 eo
        unfold rngOf at p1
        split at p1
        · rename_i n
          obtain ⟨v, rfl, hv⟩ := rvs1 r
          have := rv_int hv; subst this
          obtain ⟨c1, p2⟩ := p1.if_
          refine ⟨n, rfl, c1.1, c1.2, p2.here R1 _ ?_⟩
          have := itOk_rng (CA := CA) (X := X) (H0 := H1) (ρ0 := ρ1) 0 n.toNat
          simpa using this
        · simp at hl
        · exact p1.elim
      | [a, b], _, h4, h5 =>
        obtain ⟨k1, k2⟩ := Bool.and_eq_true_iff.mp (show (nst a && nsts [b]) = true from h4)
        obtain ⟨k2, k3⟩ := Bool.and_eq_true_iff.mp (show (nst b && nsts []) = true from k2)
        have n2 := nst_ok k2 [] X.env
        have n1 := nst_ok k1 [b] X.env
        rw [n2] at n1
        refine tm_pi (pi_range2 (gl_of h2) c.rgn (pa_tm X [a, b]) n1 n2) ?_
        refine hx.a [a, b] h5 σ H ρ env M _ rel (p.bind.mono fun ds M1 H1 ρ1 eo s1 R1 p1 vs r => ?_)
        have hl := hx.n [a, b] env M ds M1 h5 eo
        unfold rngOf at p1
        split at p1
        · simp at hl
        · rename_i i j
          obtain ⟨v, w, rfl, hv, hw⟩ := rvs2 r
          have := rv_int hv; subst this
          have := rv_int hw; subst this
          obtain ⟨c1, p2⟩ := p1.if_
          exact ⟨i, j, rfl, c1, p2.here R1 _ (itOk_rng i _)⟩
        · exact p1.elim
      | [], h3, _, _ => exact absurd h3 (by decide)
      | _ :: _ :: _ :: _, h3, _, _ => simp at h3
    · cases h
  c := fun l h => by
    cases l with
    | nil => cases h
    | cons v r => cases r <;> cases h
  n := fun es env M ds M1 h => by cases h
  z := fun es h => by cases h

theorem al_var {i : Nat} : All CA X W (ev G cl cu (.var i)) (mm B G X.N (.var i) X.env.scope) := by
  refine All.val fun e h => ?_
  split at h
  · rename_i y _
    simp only [Bool.and_eq_true, decide_eq_true_eq] at h
    obtain ⟨⟨h1, h2⟩, h3⟩ := h
    obtain ⟨d1, d2, _⟩ := dbgB_ok h3
    refine ⟨fun σ H ρ env M Q rel p => tm_pe (pe_var h1 (visB_ok h2) d1 d2) ?_, rfl⟩
    unfold varE at p
    split at p
    · rename_i d e
      obtain ⟨v, e1, r⟩ := rel.en.2 i d e
      exact ⟨v, e1, p.here rel.st v r⟩
    · exact p.elim
  · cases h
theorem al_non {sc : Scope} : All CA X W (ev G cl cu .non) (mm B G X.N .non sc) := by
  refine All.val fun e h => ?_
  split at h
  · exact ⟨SE.const pe_non fun _ _ => of_non, rfl⟩
  · cases h
theorem al_bl {b : Bool} {sc : Scope} : All CA X W (ev G cl cu (.bl b)) (mm B G X.N (.bl b) sc) := by
  refine All.val fun e h => ?_
  split at h
  · obtain rfl := of_decide_eq_true h
    exact ⟨SE.const pe_bl fun _ _ => of_bl, rfl⟩
  · cases h
theorem al_int {i : Int} {sc : Scope} : All CA X W (ev G cl cu (.int i)) (mm B G X.N (.int i) sc) := by
  refine All.val fun e h => ?_
  split at h
  · obtain rfl := of_decide_eq_true h
    exact ⟨SE.const pe_int fun _ _ => of_int, rfl⟩
  · cases h
theorem al_str {z : Str} {sc : Scope} : All CA X W (ev G cl cu (.str z)) (mm B G X.N (.str z) sc) := by
  refine All.val fun e h => ?_
  split at h
  · obtain rfl := of_decide_eq_true h
    exact ⟨SE.const pe_str fun _ _ => of_str, rfl⟩
  · cases h
theorem al_glb (c : Cc G cl cu B CA X W) {k : Nat} : All CA X W (ev G cl cu (.glb k)) (mm B G X.N (.glb k) X.env.scope) := by
  refine All.val fun e h => ?_
  split at h
  · rename_i y _
    simp only [Bool.and_eq_true, decide_eq_true_eq] at h
    obtain ⟨⟨rfl, h2⟩, h3⟩ := h
    obtain ⟨d1, d2, _⟩ := dbgB_ok h3
    refine ⟨fun σ H ρ env M Q rel p => ?_, rfl⟩
    obtain ⟨d, e, p1⟩ := p.ofO
    obtain ⟨v, u, e1, r1, r2⟩ := c.con k d e
    exact tm_pe (pe_glob (gl_of h2) e1 r1 d1) (p1.here rel.st v (r2 H ρ))
  · cases h
variable {a b d : E}
theorem al_bin {o : Op} (ha : All CA X W (ev G cl cu a) (mm B G X.N a X.env.scope)) (hb : All CA X W (ev G cl cu b) (mm B G X.N b X.env.scope)) : All CA X W (ev G cl cu (.bin o a b)) (mm B G X.N (.bin o a b) X.env.scope) := by
  refine All.val fun e h => ?_
  split at h
  · rename_i l op r _
    simp only [Bool.and_eq_true, decide_eq_true_eq] at h
    obtain ⟨⟨rfl, h2⟩, h3⟩ := h
    refine ⟨fun σ H ρ env M Q rel p => tm_pe (pe_op (op_tm X _) (pe_tm X l) (pe_tm X r)) ?_, rfl⟩
    exact SE.two (ha.e l h2) (hb.e r h3) (g := fun x y M2 => binE o M2 x y) rel p fun x y M2 H2 ρ2 v w s2 R2 hv hw p2 => binE_ok o R2 hv hw p2
  · cases h
theorem al_neg (ha : All CA X W (ev G cl cu a) (mm B G X.N a X.env.scope)) : All CA X W (ev G cl cu (.neg a)) (mm B G X.N (.neg a) X.env.scope) := by
  refine All.val fun e h => ?_
  split at h
  · rename_i l _
    refine ⟨fun σ H ρ env M Q rel p => tm_pe (pe_un un_neg (pe_tm X l)) ?_, rfl⟩
    refine ha.e l h σ H ρ env M _ rel (p.bind.mono fun x M1 H1 ρ1 _ s1 R1 p1 v hv => ?_)
    unfold negE at p1
    split at p1
    · exact ⟨_, rv_int hv, p1.here R1 _ of_int⟩
    · exact p1.elim
  · cases h
theorem al_cmp (c : Cc G cl cu B CA X W) {o : Co} (ha : All CA X W (ev G cl cu a) (mm B G X.N a X.env.scope)) (hb : All CA X W (ev G cl cu b) (mm B G X.N b X.env.scope)) : All CA X W (ev G cl cu (.cmp o a b)) (mm B G X.N (.cmp o a b) X.env.scope) := by
  refine All.two (fun env M => IsB.bind fun x M1 => IsB.bind fun y M2 => IsB.bind fun c M3 => IsB.ok) fun e h => ?_
  split at h
  · rename_i l op r _
    simp only [Bool.and_eq_true, decide_eq_true_eq, Bool.not_eq_true'] at h
    obtain ⟨⟨⟨rfl, h2⟩, h3⟩, h4⟩ := h
    refine ⟨_, pe_cmp (pc_op (op_tm X _) (pe_tm X l) (pe_tm X r)) h4, pt_cmp (pc_op (op_tm X _) (pe_tm X l) (pe_tm X r)) h4, fun σ H ρ env M Q rel p => ?_⟩
    exact SE.two (ha.e l h2) (hb.e r h3) (g := fun x y M2 => (ofO (cmpE o M2 x y) M2).bind fun c M3 => .ok (.bl c) M3) rel p fun x y M2 H2 ρ2 v w s2 R2 hv hw p2 => by
      obtain ⟨k, e, q⟩ := p2.cmp R2
      exact cmpE_ok o (by have := c.un; omega) R2 hv hw e q
  · cases h
theorem al_chn (c : Cc G cl cu B CA X W) {o o' : Co} (ha : All CA X W (ev G cl cu a) (mm B G X.N a X.env.scope)) (hb : All CA X W (ev G cl cu b) (mm B G X.N b X.env.scope)) (hd : All CA X W (ev G cl cu d) (mm B G X.N d X.env.scope)) :
    All CA X W (ev G cl cu (.chn o o' a b d)) (mm B G X.N (.chn o o' a b d) X.env.scope) := by
  refine All.two (fun env M => IsB.bind fun x M1 => IsB.bind fun y M2 => IsB.bind fun c M3 => IsB.ite (IsB.bind fun z M4 => IsB.bind fun c M5 => IsB.ok) IsB.ok) fun e h => ?_
  split at h
  · rename_i l op op' r z _
    simp only [Bool.and_eq_true, decide_eq_true_eq, Bool.not_eq_true'] at h
    obtain ⟨⟨⟨⟨⟨rfl, rfl⟩, h2⟩, h3⟩, h4⟩, h5⟩ := h
    have un : X.A.units + 65 < cLine := by have := c.un; omega
    refine ⟨_, pe_chain (op_tm X _) (op_tm X _) (pe_tm X l) (pe_tm X r) (pe_tm X z) h5, pt_chain (op_tm X _) (op_tm X _) (pe_tm X l) (pe_tm X r) (pe_tm X z) h5, fun σ H ρ env M Q rel p => ?_⟩
    refine ha.e l h2 σ H ρ env M _ rel (p.bind.mono fun x M1 H1 ρ1 _ s1 R1 p1 v hv => ?_)
    refine hb.e r h3 σ H1 ρ1 env M1 _ (rel.next s1 R1) (p1.bind.mono fun y M2 H2 ρ2 _ s2 R2 p2 w hw => ?_)
    obtain ⟨k, e, p3⟩ := p2.bind.ofO
    have p3 := p3.here R2
    refine cmpE_ok o un R2 (RV.mono R1 s2 _ _ hv) hw e ⟨k, rfl, ?_⟩
    cases k with
    | false => exact p3.here R2 _ of_bl
    | true =>
      refine hd.e z h4 σ H2 ρ2 env M2 _ ((rel.next s1 R1).next s2 R2) (p3.bind.mono fun z M4 H4 ρ4 _ s4 R4 p4 u hu => ?_)
      obtain ⟨k, e, q⟩ := p4.cmp R4
      exact cmpE_ok o' un R4 (RV.mono R2 s4 _ _ hw) hu e q
  · cases h
theorem al_ch3 (c : Cc G cl cu B CA X W) {f : E} {o o' o2 : Co} (ha : All CA X W (ev G cl cu a) (mm B G X.N a X.env.scope)) (hb : All CA X W (ev G cl cu b) (mm B G X.N b X.env.scope)) (hd : All CA X W (ev G cl cu d) (mm B G X.N d X.env.scope)) (hf : All CA X W (ev G cl cu f) (mm B G X.N f X.env.scope)) :
    All CA X W (ev G cl cu (.ch3 o o' o2 a b d f)) (mm B G X.N (.ch3 o o' o2 a b d f) X.env.scope) := by
  refine All.two (fun env M => IsB.bind fun x M1 => IsB.bind fun y M2 => IsB.bind fun c M3 => IsB.ite (IsB.bind fun z M4 => IsB.bind fun c M5 => IsB.ite (IsB.bind fun z M4 => IsB.bind fun c M5 => IsB.ok) IsB.ok) IsB.ok) fun e h => ?_
  split at h
  · rename_i l op op' op2 r z z2 _
    simp only [Bool.and_eq_true, decide_eq_true_eq, Bool.not_eq_true'] at h
    obtain ⟨⟨⟨⟨⟨⟨⟨rfl, rfl⟩, rfl⟩, h2⟩, h3⟩, h4⟩, h6⟩, h5⟩ := h
    have un : X.A.units + 65 < cLine := by have := c.un; omega
    refine ⟨_, pe_chain3 (op_tm X _) (op_tm X _) (op_tm X _) (pe_tm X l) (pe_tm X r) (pe_tm X z) (pe_tm X z2) h5, pt_chain3 (op_tm X _) (op_tm X _) (op_tm X _) (pe_tm X l) (pe_tm X r) (pe_tm X z) (pe_tm X z2) h5, fun σ H ρ env M Q rel p => ?_⟩
    refine ha.e l h2 σ H ρ env M _ rel (p.bind.mono fun x M1 H1 ρ1 _ s1 R1 p1 v hv => ?_)
    refine hb.e r h3 σ H1 ρ1 env M1 _ (rel.next s1 R1) (p1.bind.mono fun y M2 H2 ρ2 _ s2 R2 p2 w hw => ?_)
    obtain ⟨k, e, p3⟩ := p2.bind.ofO
    have p3 := p3.here R2
    refine cmpE_ok o un R2 (RV.mono R1 s2 _ _ hv) hw e ⟨k, rfl, ?_⟩
    cases k with
    | false => exact p3.here R2 _ of_bl
    | true =>
      refine hd.e z h4 σ H2 ρ2 env M2 _ ((rel.next s1 R1).next s2 R2) (p3.bind.mono fun z M4 H4 ρ4 _ s4 R4 p4 u hu => ?_)
      obtain ⟨k, e, p5⟩ := p4.bind.ofO
      have p5 := p5.here R4
      refine cmpE_ok o' un R4 (RV.mono R2 s4 _ _ hw) hu e ⟨k, rfl, ?_⟩
      cases k with
      | false => exact p5.here R4 _ of_bl
      | true =>
        refine hf.e z2 h6 σ H4 ρ4 env M4 _ (((rel.next s1 R1).next s2 R2).next s4 R4) (p5.bind.mono fun z M6 H6 ρ6 _ s6 R6 p6 u' hu' => ?_)
        obtain ⟨k, e, q⟩ := p6.cmp R6
        exact cmpE_ok o2 un R6 (RV.mono R4 s6 _ _ hu) hu' e q
  · cases h
/-- and, or: from the row of their parts -/
theorem All.bool {op : BoolOp} {f : Env → Store → Out D} {t : Env → Store → Out Bool} {ma : Expr → Bool} {mb : BoolOp → List Expr → Bool}
    (h : ∀ v w r pos, ma v = true → mb op (w :: r) = true → SE CA X W (.BoolOp op (v :: w :: r) pos) f ∧ SW CA X W (.BoolOp op (v :: w :: r) pos) t) : All CA X W (semT f t) (mtB op ma mb) := by
  have g : ∀ e, (mtB op ma mb).e e = true → SE CA X W e f ∧ ST CA X W e t := fun e he => by
    have he : (match (generalizing := false) e with | .BoolOp o vs _ => decide (o = op) && (match (generalizing := false) vs with | v :: w :: r => ma v && mb op (w :: r) | _ => false) | _ => false) = true := he
    split at he
    · rename_i o vs pos _
      obtain ⟨e1, e2⟩ := Bool.and_eq_true_iff.mp he
      obtain rfl := of_decide_eq_true e1
      split at e2
      · rename_i v w r _
        obtain ⟨e3, e4⟩ := Bool.and_eq_true_iff.mp e2
        obtain ⟨a1, a2⟩ := h v w r pos e3 e4
        exact ⟨a1, fun σ H ρ env M Q rel p => tm_tw (a2 σ H ρ env M Q rel p)⟩
      · cases e2
    · cases he
  have A : All CA X W (semT f t) (mtE (mtB op ma mb).e) := All.mk' (fun e he => (g e he).1) fun e he => (g e he).2
  refine ⟨A.e, A.t, A.a, fun o vs he pos => ?_, A.p, A.i, A.c, A.n, A.z⟩
  match vs, he with
  | [], he =>
    have he : (decide (o = op) && false) = true := he
    simp at he
  | [x], he => exact ⟨(g x he).1.bo1 o pos, (g x he).2.bo1 o pos⟩
  | v :: w :: r, he =>
    obtain ⟨e1, e2⟩ := Bool.and_eq_true_iff.mp (show (decide (o = op) && (ma v && mb op (w :: r))) = true from he)
    obtain rfl := of_decide_eq_true e1
    obtain ⟨e3, e4⟩ := Bool.and_eq_true_iff.mp e2
    exact h v w r pos e3 e4
theorem al_and (ha : All CA X W (ev G cl cu a) (mm B G X.N a X.env.scope)) (hb : All CA X W (ev G cl cu b) (mm B G X.N b X.env.scope)) : All CA X W (ev G cl cu (.and a b)) (mm B G X.N (.and a b) X.env.scope) := by
  refine All.bool fun v w r pos h1 h2 => ⟨fun σ H ρ env M Q rel p => tm_pe (pe_and (pe_tm X v) (pe_tm X (.BoolOp .And (w :: r) pos))) ?_, fun σ H ρ env M Q rel p => tm_pw (pw_and (pt_tm X v) (pw_tm X (.BoolOp .And (w :: r) pos))) ?_⟩
  · refine ha.e v h1 σ H ρ env M _ rel (p.bind.mono fun x M1 H1 ρ1 _ s1 R1 p1 z hz => ?_)
    unfold andE at p1
    split at p1
    · exact ⟨true, rv_bl hz, (hb.bo .And (w :: r) h2 pos).1 σ H1 ρ1 env M1 Q (rel.next s1 R1) p1⟩
    · exact ⟨false, rv_bl hz, p1.here R1 _ of_bl⟩
    · exact p1.elim
  · refine ha.t v h1 σ H ρ env M _ rel (p.bind.mono fun x M1 H1 ρ1 _ s1 R1 p1 => ?_)
    cases x with
    | true => exact (hb.bo .And (w :: r) h2 pos).2 σ H1 ρ1 env M1 Q (rel.next s1 R1) p1
    | false => exact p1.here R1
theorem al_or (ha : All CA X W (ev G cl cu a) (mm B G X.N a X.env.scope)) (hb : All CA X W (ev G cl cu b) (mm B G X.N b X.env.scope)) : All CA X W (ev G cl cu (.or a b)) (mm B G X.N (.or a b) X.env.scope) := by
  refine All.bool fun v w r pos h1 h2 => ⟨fun σ H ρ env M Q rel p => tm_pe (pe_or (pe_tm X v) (pe_tm X (.BoolOp .Or (w :: r) pos))) ?_, fun σ H ρ env M Q rel p => tm_pw (pw_or (pt_tm X v) (pw_tm X (.BoolOp .Or (w :: r) pos))) ?_⟩
  · refine ha.e v h1 σ H ρ env M _ rel (p.bind.mono fun x M1 H1 ρ1 _ s1 R1 p1 z hz => ?_)
    unfold orE at p1
    split at p1
    · exact ⟨false, rv_bl hz, (hb.bo .Or (w :: r) h2 pos).1 σ H1 ρ1 env M1 Q (rel.next s1 R1) p1⟩
    · exact ⟨true, rv_bl hz, p1.here R1 _ of_bl⟩
    · exact p1.elim
  · refine ha.t v h1 σ H ρ env M _ rel (p.bind.mono fun x M1 H1 ρ1 _ s1 R1 p1 => ?_)
    cases x with
    | false => exact (hb.bo .Or (w :: r) h2 pos).2 σ H1 ρ1 env M1 Q (rel.next s1 R1) p1
    | true => exact p1.here R1
theorem al_not (ha : All CA X W (ev G cl cu a) (mm B G X.N a X.env.scope)) : All CA X W (ev G cl cu (.not a)) (mm B G X.N (.not a) X.env.scope) := by
  refine All.mk' (fun e h => ?_) fun e h => ?_
  · split at h
    · rename_i l _
      refine fun σ H ρ env M Q rel p => tm_pe (pe_notT (pe_tm X l)) ?_
      refine ha.e l h σ H ρ env M _ rel (p.bind.mono fun x M1 H1 ρ1 _ s1 R1 p1 v hv => ?_)
      obtain ⟨k, e, p2⟩ := p1.bind.ofO
      exact ⟨k, truD_ok R1 hv e, (p2.here R1).here R1 _ of_bl⟩
    · cases h
  · split at h
    · rename_i l _
      refine fun σ H ρ env M Q rel p => tm_pt (pt_not (pt_tm X l)) ?_
      exact ha.t l h σ H ρ env M _ rel (p.bind.mono fun x M1 H1 ρ1 _ s1 R1 p1 => p1.here R1)
    · cases h
theorem al_idx (c : Cc G cl cu B CA X W) (ha : All CA X W (ev G cl cu a) (mm B G X.N a X.env.scope)) (hb : All CA X W (ev G cl cu b) (mm B G X.N b X.env.scope)) : All CA X W (ev G cl cu (.idx a b)) (mm B G X.N (.idx a b) X.env.scope) := by
  refine All.val fun e h => ?_
  split at h
  · rename_i l r _
    simp only [Bool.and_eq_true] at h
    obtain ⟨⟨h1, h2⟩, h3⟩ := h
    refine ⟨fun σ H ρ env M Q rel p => tm_pe (pe_ixm (pe_tm X l) (pe_tm X r)) ?_, rfl⟩
    refine SE.two (ha.e l h1) (hb.e r h2) (g := fun x y M2 => ofO (idxE M2 x y) M2) rel p fun x y M2 H2 ρ2 v w s2 R2 hv hw p2 => ?_
    obtain ⟨k, e, q⟩ := p2.ofO
    exact idxE_ok (nsl_ok h3) (by have := c.un; omega) R2 hv hw e fun z hz => q.here R2 z hz
  · cases h
theorem al_slc (ha : All CA X W (ev G cl cu a) (mm B G X.N a X.env.scope)) (hb : All CA X W (ev G cl cu b) (mm B G X.N b X.env.scope)) (hd : All CA X W (ev G cl cu d) (mm B G X.N d X.env.scope)) : All CA X W (ev G cl cu (.slc a b d)) (mm B G X.N (.slc a b d) X.env.scope) := by
  refine All.val fun e h => ?_
  split at h
  · rename_i l p q _ _
    simp only [Bool.and_eq_true] at h
    obtain ⟨⟨h1, h2⟩, h3⟩ := h
    refine ⟨fun σ H ρ env M Q rel p' => tm_pe (pe_slice sl_tm (pe_tm X l) (po_tm X p) (po_tm X q)) ?_, rfl⟩
    refine ha.e l h1 σ H ρ env M _ rel (p'.bind.mono fun x M1 H1 ρ1 _ s1 R1 p1 v hv => ?_)
    refine hb.p p h2 σ H1 ρ1 env M1 _ (rel.next s1 R1) (p1.bind.mono fun lo M2 H2 ρ2 _ s2 R2 p2 => ?_)
    refine hd.p q h3 σ H2 ρ2 env M2 _ ((rel.next s1 R1).next s2 R2) (p2.bind.mono fun hi M3 H3 ρ3 _ s3 R3 p3 => ?_)
    exact slcE_ok R3 (RV.mono R2 s3 _ _ (RV.mono R1 s2 _ _ hv)) p3
  · cases h
theorem al_ife (ha : All CA X W (ev G cl cu a) (mm B G X.N a X.env.scope)) (hb : All CA X W (ev G cl cu b) (mm B G X.N b X.env.scope)) (hd : All CA X W (ev G cl cu d) (mm B G X.N d X.env.scope)) : All CA X W (ev G cl cu (.ife a b d)) (mm B G X.N (.ife a b d) X.env.scope) := by
  refine All.mk' (fun e h => ?_) fun e h => ?_
  · split at h
    · rename_i t l r _
      simp only [Bool.and_eq_true] at h
      obtain ⟨⟨h1, h2⟩, h3⟩ := h
      refine fun σ H ρ env M Q rel p => tm_pe (pe_ifExp (pt_tm X t) (pe_tm X l) (pe_tm X r)) ?_
      refine ha.t t h1 σ H ρ env M _ rel (p.bind.mono fun x M1 H1 ρ1 _ s1 R1 p1 => ?_)
      cases x with
      | true => exact hb.e l h2 σ H1 ρ1 env M1 Q (rel.next s1 R1) p1
      | false => exact hd.e r h3 σ H1 ρ1 env M1 Q (rel.next s1 R1) p1
    · cases h
  · split at h
    · rename_i t l r _
      simp only [Bool.and_eq_true] at h
      obtain ⟨⟨h1, h2⟩, h3⟩ := h
      intro σ H ρ env M Q rel p pins s I
      refine PyProof.Rows.isTrue_IfExp (thn (ha.t t h1 σ H ρ env M (fun c H1 => if c = true then TMT X l σ H1 Q else TMT X r σ H1 Q) rel (p.bind.mono fun x M1 H1 ρ1 _ s1 R1 p1 => ?_) pins s I) fun c s1 ⟨H1, I1, q1⟩ => ?_)
      · cases x with
        | true => exact hb.t l h2 σ H1 ρ1 env M1 Q (rel.next s1 R1) p1
        | false => exact hd.t r h3 σ H1 ρ1 env M1 Q (rel.next s1 R1) p1
      · cases c with
        | true => exact q1 pins s1 I1
        | false => exact q1 pins s1 I1
    · cases h
theorem al_tup (ha : All CA X W (ev G cl cu a) (mm B G X.N a X.env.scope)) : All CA X W (ev G cl cu (.tup a)) (mm B G X.N (.tup a) X.env.scope) := by
  refine All.val fun e h => ?_
  split at h
  · rename_i l _ _
    simp only [Bool.and_eq_true] at h
    refine ⟨fun σ H ρ env M Q rel p => tm_pe (pe_tup (pa_tm X l)) ?_, rfl⟩
    refine ha.a l h.1 σ H ρ env M _ rel (p.bind.mono fun ds M1 H1 ρ1 _ s1 R1 p1 vs r => ?_)
    obtain ⟨c, p2⟩ := p1.if_
    exact ⟨by rw [RVs.length r]; exact c, fun q hq => p2.tup R1 r q hq⟩
  · cases h
theorem al_lst (ha : All CA X W (ev G cl cu a) (mm B G X.N a X.env.scope)) : All CA X W (ev G cl cu (.lst a)) (mm B G X.N (.lst a) X.env.scope) := by
  refine All.val fun e h => ?_
  split at h
  · rename_i l _
    simp only [Bool.and_eq_true] at h
    refine ⟨fun σ H ρ env M Q rel p => tm_pe (pe_lst (pa_tm X l)) ?_, rfl⟩
    refine ha.a l h.1 σ H ρ env M _ rel (p.bind.mono fun ds M1 H1 ρ1 _ s1 R1 p1 vs r => ?_)
    unfold lstG at p1
    obtain ⟨c, p2⟩ := p1.if_
    exact ⟨by rw [RVs.length r]; exact c, fun q hq => p2.mk R1 ⟨vs, rfl, r⟩ q hq⟩
  · cases h
theorem al_dnl {tk : Bool} {sc : Scope} : All CA X W (ev G cl cu (.dnl tk)) (mm B G X.N (.dnl tk) sc) := by
  refine All.val fun e h => ?_
  split at h
  · cases tk with
    | true => exact ⟨fun σ H ρ env M Q rel p => tm_pe pe_dnewT fun q hq => Post.mk p rel.st ⟨[], rfl, rfl, RVs.nil⟩ q hq, rfl⟩
    | false => exact ⟨fun σ H ρ env M Q rel p => tm_pe pe_dnewK fun q hq => Post.mk p rel.st ⟨[], rfl, rfl, RVs.nil⟩ q hq, rfl⟩
  · cases h
theorem al_fld (c : Cc G cl cu B CA X W) {f : Str} (ha : All CA X W (ev G cl cu a) (mm B G X.N a X.env.scope)) : All CA X W (ev G cl cu (.fld a f)) (mm B G X.N (.fld a f) X.env.scope) := by
  refine All.val fun e h => ?_
  split at h
  · rename_i l g _
    simp only [Bool.and_eq_true, decide_eq_true_eq] at h
    obtain ⟨⟨rfl, h2⟩, h3⟩ := h
    refine ⟨fun σ H ρ env M Q rel p => tm_pe (pe_fld (pe_tm X l) (nsup_ok h3 _ X.env)) ?_, rfl⟩
    refine ha.e l h2 σ H ρ env M _ rel (p.bind.mono fun x M1 H1 ρ1 _ s1 R1 p1 v hv => ?_)
    unfold fldE at p1
    split at p1
    · split at p1
      · rename_i C fs q
        obtain ⟨fk, p2⟩ := p1.if_
        obtain ⟨y, e, p3⟩ := p2.ofO
        obtain ⟨k1, k2⟩ := c.fld C f fk
        obtain ⟨ad, u, rfl, _, e2, dx, ws, rfl, e3, e4⟩ := rv_obj R1 hv q
        obtain ⟨w, e5, e6⟩ := lookup_rv e3 e4 e
        exact ⟨ad, CA C, dx, ws, w, rfl, e2, k1, k2, e5, p3.here R1 w e6⟩
      · exact p1.elim
    · exact p1.elim
  · cases h
theorem Room.dn {k : Nat} {A : Around} (r : Room (k + 1) A) : Room k A := ⟨r.hd, by have := r.dp; omega, by have := r.un; omega⟩
theorem al_cal (c : Cc G cl cu B CA X W) {f : Nat} (ha : All CA X W (ev G cl cu a) (mm B G X.N a X.env.scope)) : All CA X W (ev G cl cu (.cal f a)) (mm B G X.N (.cal f a) X.env.scope) := by
  refine All.val fun e h => ?_
  split at h
  · rename_i y _ as _
    simp only [Bool.and_eq_true, decide_eq_true_eq] at h
    obtain ⟨⟨⟨⟨⟨⟨hcm, h0⟩, rfl⟩, h2⟩, h3⟩, h4⟩, h5⟩ := h
    obtain ⟨d1, d2, _⟩ := dbgB_ok h3
    obtain ⟨ad, m1, m2, fd, ps, k, F, hr, hb⟩ := c.fns hcm f h0
    refine ⟨fun σ H ρ env M Q rel p => ?_, rfl⟩
    cases as with
    | nil =>
      have p : Post CA X.K W σ H ρ (((ev G cl cu a).a env M).bind fun vs M1 => cl f vs M1) (kV' X.K Q) := p
      rw [ha.z [] h5 rfl] at p
      exact tm_pe (pe_callS0 (E := WE W) F (Room.dn hr) (gl_of h2) m1 m2 hb (passAt c.tk) d1) ⟨[], M, ρ, rel.st, RVs.nil, Post.toC p⟩
    | cons x r =>
      obtain ⟨n1, n2⟩ := Bool.and_eq_true_iff.mp (show (nst x && nsts r) = true from h4)
      exact tm_pe (pe_callS (E := WE W) F (Room.dn hr) (gl_of h2) m1 m2 hb (passAt c.tk) (pa_tm X (x :: r)) d1 (nst_ok n1 r X.env) (plain_ok n2 _ X.env))
        (ha.a (x :: r) h5 σ H ρ env M _ rel (p.bind.mono fun ds M1 H1 ρ1 _ s1 R1 p1 vs r => ⟨ds, M1, ρ1, R1, r, p1.toC⟩))
  · cases h
/-- a new object and its maker -/
theorem mak_ok {c : Nat} {g : Nat} {σ : L2.St} {H : Hp} {ρ : List Addr} {M : Store} {ds : List D} {vs : List V} {Q : VK} (hg : G.ini c = some g) (R : RS CA X.K H ρ M) (r : RVs X.K H ρ ds vs) (p : Post CA X.K W σ H ρ (makE G cl c ds M) (kV' X.K Q)) :
    ∀ x dx, H x = none → H dx = none → dx ≠ x → spC CA X.K cl g (.ref x :: vs) (upd (upd H dx (.own x)) x (.ins (CA c) dx [])) (fun v H2 => v = .non ∧ Q (.ref x) H2) (WE W σ) := by
  intro x dx hx hdx hne
  unfold makE at p
  rw [hg] at p
  have hx' : upd H dx (.own x) x = none := by rw [upd_ne (Ne.symm hne)]; exact hx
  have s1 : St8 H ρ (upd H dx (.own x)) ρ := St8.lay hdx
  have R1 : RS CA X.K (upd H dx (.own x)) ρ M := R.lay hdx
  have s2 := s1.trans (St8.push (o := .ins (CA c) dx []) (ρ := ρ) hx')
  have R2 := R1.push (o := .ins (CA c) dx []) (ob := .ins c []) hx' ⟨dx, [], rfl, rfl, RVs.nil⟩
  have lx : (ρ ++ [x])[M.length]? = some x := by rw [← R.len]; simp
  refine ⟨.loc M.length :: ds, M ++ [.ins c []], ρ ++ [x], R2, RVs.cons ⟨x, lx, rfl⟩ (RVs.mono R s2 _ _ r), ?_⟩
  refine Post.toC (W := W) ((p.step s2).bind.mono fun d M3 H3 ρ3 _ s3 R3 p3 v hv => ?_)
  split at p3
  · exact ⟨rv_non hv, p3.here R3 (.ref x) ⟨x, prefix_get s3.pre lx, rfl⟩⟩
  · exact p3.elim
theorem al_mak (c : Cc G cl cu B CA X W) {k : Nat} (ha : All CA X W (ev G cl cu a) (mm B G X.N a X.env.scope)) : All CA X W (ev G cl cu (.mak k a)) (mm B G X.N (.mak k a) X.env.scope) := by
  refine All.val fun e h => ?_
  split at h
  · rename_i y _ as _
    simp only [Bool.and_eq_true, decide_eq_true_eq] at h
    obtain ⟨⟨⟨⟨⟨⟨hcm, hk⟩, rfl⟩, h2⟩, h3⟩, h4⟩, h5⟩ := h
    obtain ⟨d1, d2, _⟩ := dbgB_ok h3
    obtain ⟨g, hg⟩ := Option.isSome_iff_exists.mp hk
    obtain ⟨ad, m1, mk, fd, ps, kk, F, hr, hb⟩ := c.mak hcm k g hg
    refine ⟨fun σ H ρ env M Q rel p => ?_, rfl⟩
    cases as with
    | nil =>
      have p : Post CA X.K W σ H ρ (((ev G cl cu a).a env M).bind fun vs M1 => makE G cl k vs M1) (kV' X.K Q) := p
      rw [ha.z [] h5 rfl] at p
      exact tm_pe (pe_makeS0 (E := WE W) mk F hr (gl_of h2) m1 hb (passAt c.tk) d1) (mak_ok hg rel.st RVs.nil p)
    | cons x r =>
      exact tm_pe (pe_makeS (E := WE W) mk F hr (gl_of h2) m1 hb (passAt c.tk) (pa_tm X (x :: r)) d1 h4)
        (ha.a (x :: r) h5 σ H ρ env M _ rel (p.bind.mono fun ds M1 H1 ρ1 _ s1 R1 p1 vs r => mak_ok hg R1 r p1))
  · cases h
/-- what no one waits for -/
theorem Post.any {σ : L2.St} {H : Hp} {ρ : List Addr} {α : Type} {o : Out α} {k k' : α → Store → Hp → List Addr → Prop} (p : Post CA X.K W σ H ρ o k) (h : ∀ a M, o ≠ .ok a M) : Post CA X.K W σ H ρ o k' := by
  cases o with
  | ok a M => exact absurd rfl (h a M)
  | exc c fs M => exact p
  | bad => exact p
theorem al_mth (c : Cc G cl cu B CA X W) {m : Nat} (ha : All CA X W (ev G cl cu a) (mm B G X.N a X.env.scope)) (hb : All CA X W (ev G cl cu b) (mm B G X.N b X.env.scope)) : All CA X W (ev G cl cu (.mth a m b)) (mm B G X.N (.mth a m b) X.env.scope) := by
  refine All.val fun e h => ?_
  split at h
  · rename_i l g ap as pos
    simp only [Bool.and_eq_true, decide_eq_true_eq] at h
    obtain ⟨⟨⟨⟨⟨⟨⟨hcm, rfl⟩, h1⟩, h2⟩, h3⟩, h4⟩, h5⟩, h6⟩ := h
    refine ⟨fun σ H ρ env M Q rel p => ?_, rfl⟩
    replace p : Post CA X.K W σ H ρ (((ev G cl cu a).e env M).bind fun x M1 => match mthE G M1 x m with
      | some g => ((ev G cl cu b).a env M1).bind fun vs M2 => cl g (x :: vs) M2
      | none => .bad) (kV' X.K Q) := p
    have stuck : (∀ d M1, (ev G cl cu a).e env M ≠ .ok d M1) → TMX X (.Call (.Attribute l (G.mn m) ap) as [] pos) σ H Q := fun no pins s I => by
      rw [meth_eq h2 h4 h5 h3]
      have q := ha.e l h1 σ H ρ env M (fun _ _ => False) rel (p.bind.any no)
      exact wpAny_bind (thn (q pins s I) fun u s1 ⟨_, _, _, _, z⟩ => z.elim)
    cases ho : (ev G cl cu a).e env M with
    | bad => exact stuck fun d M1 => by rw [ho]; exact fun z => by cases z
    | exc k fs M1 => exact stuck fun d M1 => by rw [ho]; exact fun z => by cases z
    | ok d M1 =>
      rw [ho] at p
      cases hm : mthE G M1 d m with
      | none =>
        replace p : Post CA X.K W σ H ρ (match mthE G M1 d m with
          | some g => ((ev G cl cu b).a env M1).bind fun vs M2 => cl g (d :: vs) M2
          | none => .bad) (kV' X.K Q) := p
        rw [hm] at p
        exact p.elim
      | some f =>
        replace p : Post CA X.K W σ H ρ (match mthE G M1 d m with
          | some g => ((ev G cl cu b).a env M1).bind fun vs M2 => cl g (d :: vs) M2
          | none => .bad) (kV' X.K Q) := p
        rw [hm] at p
        replace p : Post CA X.K W σ H ρ (((ev G cl cu b).a env M1).bind fun vs M2 => cl f (d :: vs) M2) (kV' X.K Q) := p
        unfold mthE at hm
        split at hm
        · rename_i n
          split at hm
          · rename_i C fs q
            split at hm
            · rename_i hl
              obtain ⟨ad, cls, mt, fd, ps, k, F, hr, hbd⟩ := c.mth hcm C m f hm
              have obj : ∀ H1 ρ1 v, RS CA X.K H1 ρ1 M1 → RV X.K H1 ρ1 (.loc n) v → ∃ a dx ws, v = .ref a ∧ H1 a = some (.ins (CA C) dx ws) ∧ ws.lookup (G.mn m) = none := fun H1 ρ1 v R1 hv => by
                obtain ⟨a, u, rfl, _, e2, dx, ws, rfl, e3, e4⟩ := rv_obj R1 hv q
                exact ⟨a, dx, ws, rfl, e2, lookup_none e3 (Option.isNone_iff_eq_none.mp hl)⟩
              have start : ∀ K' : VK, (∀ H1 ρ1 v, St8 H ρ H1 ρ1 → RS CA X.K H1 ρ1 M1 → RV X.K H1 ρ1 (.loc n) v → K' v H1) → TMX X l σ H K' := fun K' hK =>
                ha.e l h1 σ H ρ env M K' rel (by rw [ho]; exact fun H1 ρ1 s1 R1 v hv => hK H1 ρ1 v s1 R1 hv)
              cases as with
              | nil =>
                rw [hb.z [] h6 rfl] at p
                refine tm_pe (pe_methS0 (E := WE W) (pe_tm X l) cls mt F (Room.dn hr) hbd (passAt c.tk) h2 h3) (start _ fun H1 ρ1 v s1 R1 hv => ?_)
                obtain ⟨a, dx, ws, rfl, e2, e3⟩ := obj H1 ρ1 v R1 hv
                exact ⟨a, dx, ws, rfl, e2, e3, [.loc n], M1, ρ1, R1, RVs.cons hv RVs.nil, Post.toC (p.step s1)⟩
              | cons x r =>
                refine tm_pe (pe_methS (E := WE W) (pe_tm X l) cls mt F (Room.dn hr) hbd (passAt c.tk) (pa_tm X (x :: r)) h2 h4 h5 h3) (start _ fun H1 ρ1 v s1 R1 hv => ?_)
                obtain ⟨a, dx, ws, rfl, e2, e3⟩ := obj H1 ρ1 v R1 hv
                refine ⟨a, dx, ws, rfl, e2, e3, ?_⟩
                exact hb.a (x :: r) h6 σ H1 ρ1 env M1 _ (rel.next s1 R1) ((p.step s1).bind.mono fun ds M2 H2 ρ2 _ s2 R2 p2 vs r => ⟨.loc n :: ds, M2, ρ2, R2, RVs.cons (RV.mono R1 s2 _ _ hv) r, p2.toC⟩)
            · cases hm
          · cases hm
        · cases hm
  · cases h
theorem al_bi (c : Cc G cl cu B CA X W) {f : Bi} (ha : All CA X W (ev G cl cu a) (mm B G X.N a X.env.scope)) : All CA X W (ev G cl cu (.bi f a)) (mm B G X.N (.bi f a) X.env.scope) := by
  refine All.val fun e h => ?_
  split at h
  · rename_i y _ as _
    simp only [Bool.and_eq_true, decide_eq_true_eq] at h
    obtain ⟨⟨⟨⟨⟨hb, rfl⟩, h2⟩, h3⟩, h4⟩, h5⟩ := h
    refine ⟨fun σ H ρ env M Q rel p => ?_, rfl⟩
    cases as with
    | nil => cases h3
    | cons x r =>
      exact tm_pe (pe_bi (call_tm X (biV f)) (gl_of h2) (c.bln f) (pa_tm X (x :: r)) h4)
        (ha.a (x :: r) h5 σ H ρ env M _ rel (p.bind.mono fun ds M1 H1 ρ1 _ s1 R1 p1 vs r => biE_ok f (c.calm hb) R1 r p1))
  · cases h
theorem al_bm (c : Cc G cl cu B CA X W) {m : Bm} (ha : All CA X W (ev G cl cu a) (mm B G X.N a X.env.scope)) (hb : All CA X W (ev G cl cu b) (mm B G X.N b X.env.scope)) : All CA X W (ev G cl cu (.bm m a b)) (mm B G X.N (.bm m a b) X.env.scope) := by
  refine All.val fun e h => ?_
  split at h
  · rename_i l g ap as pos
    simp only [Bool.and_eq_true, decide_eq_true_eq] at h
    obtain ⟨⟨⟨⟨⟨⟨⟨rfl, h1⟩, h2⟩, h3⟩, h4⟩, h5⟩, h6⟩, h7⟩ := h
    refine ⟨fun σ H ρ env M Q rel p => ?_, rfl⟩
    have un : X.A.units + 1 < cLine := by have := c.un; omega
    cases as with
    | nil =>
      have z := hb.z [] h6 rfl
      cases m with
      | pop =>
        refine tm_pe (pe_bmA0 (mt_tm X "list.pop") (pe_tm X l) h2 h3) (ha.e l h1 σ H ρ env M _ rel (p.bind.mono fun x M1 H1 ρ1 _ s1 R1 p1 v hv => ?_))
        obtain ⟨ty, p2⟩ := p1.if_
        rw [z] at p2
        exact ⟨bmTy_ok .pop R1 hv ty, bmE_ok .pop un R1 hv RVs.nil p2⟩
      | _ => cases h7
    | cons x r =>
      refine tm_pe (pe_bmA (mt_tm X (bmI m)) (pe_tm X l) (pa_tm X (x :: r)) h2 h4 h5 h3) (ha.e l h1 σ H ρ env M _ rel (p.bind.mono fun y M1 H1 ρ1 _ s1 R1 p1 v hv => ?_))
      obtain ⟨ty, p2⟩ := p1.if_
      exact ⟨bmTy_ok m R1 hv ty, hb.a (x :: r) h6 σ H1 ρ1 env M1 _ (rel.next s1 R1) (p2.bind.mono fun ds M2 H2 ρ2 _ s2 R2 p3 vs r => bmE_ok m un R2 (RV.mono R1 s2 _ _ hv) r p3)⟩
  · cases h
theorem al_isi (c : Cc G cl cu B CA X W) {t : Ty} (ha : All CA X W (ev G cl cu a) (mm B G X.N a X.env.scope)) : All CA X W (ev G cl cu (.isi a t)) (mm B G X.N (.isi a t) X.env.scope) := by
  refine All.val fun e h => ?_
  split at h
  · rename_i y _ l z _ _
    simp only [Bool.and_eq_true, decide_eq_true_eq] at h
    obtain ⟨⟨⟨⟨⟨rfl, h2⟩, rfl⟩, h4⟩, h5⟩, h6⟩ := h
    refine ⟨fun σ H ρ env M Q rel p => ?_, rfl⟩
    obtain ⟨t1, t2⟩ := tyS_ne t
    have pz : ∀ q, PA X [.Name (tyS t) q] (tCons (tC (.ty (tyN t))) tNil) := fun q => pa_cons (pe_bltn (pos := q) (gl_of h4) (c.tyn t) (boot_ty t) (show RelV (.ty (tyN t)) (.type (tyN t)) from rfl) t1 t2) pa_nil
    refine tm_pe (pe_callB (call_tm X (.builtin "isinstance")) (gl_of h2) c.isn PyProof.Rows.boot_isinstance (pa_cons (pe_tm X l) (pz _) (nst_ok h5 _ X.env)) (by decide) (by decide) (nst_ok h5 _ X.env) rfl) ?_
    refine ha.e l h6 σ H ρ env M _ rel (p.bind.mono fun x M1 H1 ρ1 _ s1 R1 p1 v hv => ?_)
    obtain ⟨k, e, q⟩ := p1.cmp R1
    exact isiE_ok t R1 hv e q
  · cases h
theorem al_cmp1 (c : Cc G cl cu B CA X W) {tg own : List Nat} {sole : Bool} (hi : All CA X W (ev G cl cu b) (mm B G X.N b X.env.scope))
    (hc : B.cm = true → ∀ s2 : Scope, s2.kind = .function → ∀ (s : Shared) (H : Hp) (C : Addr) (cs : List (Str × Addr)) (fp : List Addr), All CA (blkX X s2 s H C cs fp) W0 (ev G cl cu d) (mm B G X.N d (relS s2 X.env.scope)))
    (he : B.cm = true → ∀ s2 : Scope, s2.kind = .function → ∀ (s : Shared) (H : Hp) (C : Addr) (cs : List (Str × Addr)) (fp : List Addr), All CA (blkX X s2 s H C cs fp) W0 (ev G cl cu a) (mm B G X.N a (relS s2 X.env.scope))) :
    All CA X W (ev G cl cu (.cmp1 a tg sole own b d)) (mm B G X.N (.cmp1 a tg sole own b d) X.env.scope) := by
  refine All.val fun e h => ?_
  split at h
  · rename_i l t src ifs k s2 pos
    simp only [Bool.and_eq_true, decide_eq_true_eq] at h
    obtain ⟨⟨⟨⟨⟨⟨⟨⟨⟨hb, rfl⟩, h1⟩, h2⟩, h3⟩, h4⟩, h5⟩, h6⟩, h7⟩, h8⟩ := h
    have ok := blkOk_by h3
    refine ⟨?_, rfl⟩
    have := lc_se (CA := CA) (W := W) (tg := tg) (sole := sole) (pos := pos) (c.calm hb) c.nd (hi.i t src h1) ok (fun i hi => by
        rw [h4]
        have := List.all_eq_true.mp h5 i hi
        simpa using this) (fun s H C cs fp => tgM_ok (X := blkX X s2 s H C cs fp) (fc := false) (fun z => by cases z) c.nd (c.calm hb) h6) (fun s H C cs fp => (hc hb s2 ok.kind s H C cs fp).c ifs h7) (fun s H C cs fp => (he hb s2 ok.kind s H C cs fp).e l h8) (nset_ok h2 X.env) (c.sgc hb)
    rw [h4] at this
    exact this
  · cases h
theorem al_isx (c : Cc G cl cu B CA X W) {k : Nat} : All CA X W (ev G cl cu (.isx k)) (mm B G X.N (.isx k) X.env.scope) := by
  refine All.val fun e h => ?_
  split at h
  · rename_i y p1 n p2 z p3 pos
    simp only [Bool.and_eq_true, decide_eq_true_eq] at h
    obtain ⟨⟨⟨⟨⟨⟨⟨⟨rfl, h2⟩, h3⟩, h4⟩, h5⟩, rfl⟩, h7⟩, h8⟩, h9⟩ := h
    obtain ⟨d1, d2, _⟩ := dbgB_ok h5
    obtain ⟨d3, d4, _⟩ := dbgB_ok h8
    refine ⟨fun σ H ρ env M Q rel p => ?_, rfl⟩
    replace p : Post CA X.K W σ H ρ (isxE G cu k M) (kV' X.K Q) := p
    unfold isxE at p
    split at p
    · rename_i kk
      obtain ⟨_, p⟩ := p.if_
      obtain ⟨ck, a, oe, d, pn, X0, eX, hz, hf, hs⟩ := c.xc kk [] rfl
      obtain ⟨s1, s2⟩ := hs σ H rel.sg
      have hd : d = none := by
        cases d with
        | none => rfl
        | some d => exact absurd rfl s2.1
      subst hd
      have kit := (c.xsb kk k ck h9).1
      have cls := (c.xcl k h9).1
      have exc := (c.xcl kk ck).2
      have isn := c.isn
      have g1 := gl_of (X := X) h2
      have g2 := gl_of (X := X) h7
      have v1 := visB_ok h4
      have q := p.here rel.st _ of_bl
      clear p hs rel c
      subst eX
      refine tm_pe (pe_callB (call_isE exc hz hf) g1 isn PyProof.Rows.boot_isinstance (pa_cons (pe_var h3 v1 d1 d2) (pa_cons (pe_glob g2 cls (show RelV (.ref (CA k)) (.ref (CA k)) from rfl) d3) pa_nil)) (by decide) (by decide)) ?_
      exact ⟨_, s1, .ref (CA k), .ref (CA k), G.sub kk k, rfl, fun u r => r, kit, q⟩
    · exact p.elim
  · cases h
theorem al_xfd (c : Cc G cl cu B CA X W) {f : Str} : All CA X W (ev G cl cu (.xfd f)) (mm B G X.N (.xfd f) X.env.scope) := by
  refine All.val fun e h => ?_
  split at h
  · rename_i n p1 g pos
    simp only [Bool.and_eq_true, decide_eq_true_eq] at h
    obtain ⟨⟨⟨rfl, h3⟩, h4⟩, h5⟩ := h
    obtain ⟨d1, d2, _⟩ := dbgB_ok h5
    refine ⟨fun σ H ρ env M Q rel p => ?_, rfl⟩
    replace p : Post CA X.K W σ H ρ (xfdE G cu f M) (kV' X.K Q) := p
    unfold xfdE at p
    split at p
    · rename_i kk fs
      obtain ⟨hk, p⟩ := p.if_
      obtain ⟨x, ex, p⟩ := p.ofO
      obtain ⟨ck, a, oe, d, pn, X0, eX, hz, hf, hs⟩ := c.xc kk fs rfl
      obtain ⟨s1, s2⟩ := hs σ H rel.sg
      cases d with
      | none =>
        have s2 : fs = [] := s2
        subst s2
        cases ex
      | some d =>
        obtain ⟨_, ws, e1, e2⟩ := s2
        obtain ⟨v, e3, e4⟩ := e2 f x ex
        obtain ⟨x1, x2⟩ := c.xfl kk f hk
        have v1 := visB_ok h4
        have q := p.here rel.st v (RV.keep (H := H) (H' := H) (ρ := []) (ρ' := ρ) ⟨fun _ _ h => h, fun _ _ _ h => h⟩ (List.nil_prefix) x v e4)
        clear p hs rel c
        subst eX
        exact tm_pe (pe_xf x1 x2 hz hf (pe_var h3 v1 d1 d2)) ⟨_, s1, rfl, rfl, d, ws, v, rfl, e1, e3, q⟩
    · exact p.elim
  · cases h
end
theorem all_ok {CA : Ca} {G : Gl} {cl : Cl} {B : Tb} {cu : Option (Nat × List (Str × D))} : ∀ (x : E) (X : Cx) (W : WX), Cc G cl cu B CA X W → All CA X W (ev G cl cu x) (mm B G X.N x X.env.scope)
  | .nil, X, W, c => al_nil
  | .cons x y, X, W, c => al_cons (all_ok x X W c) (all_ok y X W c)
  | .var _, X, W, c => al_var
  | .non, X, W, c => al_non
  | .bl _, X, W, c => al_bl
  | .int _, X, W, c => al_int
  | .str _, X, W, c => al_str
  | .glb _, X, W, c => al_glb c
  | .bin _ x y, X, W, c => al_bin (all_ok x X W c) (all_ok y X W c)
  | .neg x, X, W, c => al_neg (all_ok x X W c)
  | .cmp _ x y, X, W, c => al_cmp c (all_ok x X W c) (all_ok y X W c)
  | .chn _ _ x y z, X, W, c => al_chn c (all_ok x X W c) (all_ok y X W c) (all_ok z X W c)
  | .ch3 _ _ _ x y z w, X, W, c => al_ch3 c (all_ok x X W c) (all_ok y X W c) (all_ok z X W c) (all_ok w X W c)
  | .and x y, X, W, c => al_and (all_ok x X W c) (all_ok y X W c)
  | .or x y, X, W, c => al_or (all_ok x X W c) (all_ok y X W c)
  | .not x, X, W, c => al_not (all_ok x X W c)
  | .ife x y z, X, W, c => al_ife (all_ok x X W c) (all_ok y X W c) (all_ok z X W c)
  | .tup x, X, W, c => al_tup (all_ok x X W c)
  | .lst x, X, W, c => al_lst (all_ok x X W c)
  | .dnl _, X, W, c => al_dnl
  | .dsp _, X, W, c => All.none
  | .idx x y, X, W, c => al_idx c (all_ok x X W c) (all_ok y X W c)
  | .slc x y z, X, W, c => al_slc (all_ok x X W c) (all_ok y X W c) (all_ok z X W c)
  | .rev _, X, W, c => All.none
  | .fld x _, X, W, c => al_fld c (all_ok x X W c)
  | .cal _ x, X, W, c => al_cal c (all_ok x X W c)
  | .mak k x, X, W, c => al_mak c (all_ok x X W c)
  | .mth x _ y, X, W, c => al_mth c (all_ok x X W c) (all_ok y X W c)
  | .bi _ x, X, W, c => al_bi c (all_ok x X W c)
  | .bm _ x y, X, W, c => al_bm c (all_ok x X W c) (all_ok y X W c)
  | .isi x _, X, W, c => al_isi c (all_ok x X W c)
  | .isx _, X, W, c => al_isx c
  | .xfd _, X, W, c => al_xfd c
  | .rng x, X, W, c => al_rng c (all_ok x X W c)
  | .cmp1 x _ _ _ y z, X, W, c => al_cmp1 c (all_ok y X W c) (fun hb s2 hk s H C cs fp => all_ok z (blkX X s2 s H C cs fp) W0 (c.blk hb hk s H C cs fp)) (fun hb s2 hk s H C cs fp => all_ok x (blkX X s2 s H C cs fp) W0 (c.blk hb hk s H C cs fp))
end Dv
end

section
set_option Elab.async false
set_option autoImplicit false
set_option linter.all false
set_option maxRecDepth 100000
set_option maxHeartbeats 4000000
/-! DvN: a statement that matches does what the evaluator says. -/
namespace Dv
open PySem L2
/-! ### the matcher -/
structure MtS where
  s : Stmt → Bool
  b : List Stmt → Bool
def ntup : Expr → Bool | .Tuple _ _ _ => false | _ => true
/-- [..] may go to the local y at py -/
def lcTo (y : Str) (py : Pos) : Expr → Bool
  | .ListComp _ _ s2 pos => (py.line == pos.line) && !(s2.names.any fun (n, k) => n == y && (k == .local || k == .cell))
  | _ => false
section
variable (G : Gl) (N : List Str) (sc : Scope)
def asgM (B : Tb) (t : T) (e : E) (tg v : Expr) : Bool := match t with
  | .nm i => (match tg with | .Name y py => B.cm && decide (N[i]? = some y) && lclB true sc y && (mm B G N e sc).e v && (ncmp v || (match sc.names.lookup y with | some .cell => true | _ => false) || (match e with | .cmp1 _ _ _ _ _ _ => true | _ => false) && (locB sc y && lcTo y py v)) | _ => false)
  | .tp is => B.cm && tgM N true sc is false tg && (mm B G N e sc).e v && ncmp v && ntup v
  | .sub o i => (match tg with | .Subscript l r _ => B.cm && (mm B G N o sc).e l && (mm B G N i sc).e r && nsl r && (mm B G N e sc).e v && ncmp v | _ => false)
  | .att o f => (match tg with | .Attribute l g _ => B.cm && decide (f = g) && (mm B G N o sc).e l && (mm B G N e sc).e v | _ => false)
def msS (f : Stmt → Bool) : MtS := ⟨f, fun _ => false⟩
def ms : S → Tb → MtS
  | .nil, _ => ⟨fun _ => false, fun l => l.isEmpty⟩
  | .cons x y, B => ⟨fun _ => false, fun l => match l with | s :: r => (ms x B).s s && (ms y B).b r | _ => false⟩
  | .asg t e, B => msS fun s => match s with | .Assign [tg] v _ => asgM G N sc B t e tg v | _ => false
  | .ex e, B => msS fun s => match s with | .Expr v _ => (mm B G N e sc).e v && ncmp v | _ => false
  | .ret e, B => msS fun s => match s with | .Return (some v) _ => (mm B G N e sc).e v | _ => false
  | .retN, _ => msS fun s => match s with | .Return none _ => true | _ => false
  | .pas, _ => msS fun s => match s with | .Pass _ => true | .Expr (.Constant (.str _) _ _) _ => true | _ => false
  | .ite c a b, B => msS fun s => match s with | .If c' p q _ => (mm B G N c sc).e c' && (ms a B).b p && (ms b B).b q | _ => false
  | .for_ tg sole it body, B => msS fun s => match s with | .For t' it' p [] _ => B.cm && (mm B G N it sc).i it' && nset it' && tgM N true sc tg sole t' && (ms body B).b p | _ => false
  | .whl c body, B => msS fun s => match s with | .While c' p [] _ => B.cm && (mm B G N c sc).e c' && (ms body B).b p | _ => false
  | .rai c es, B => msS fun s => match s with | .Raise (some (.Call (.Name y _) as [] _)) none _ => B.cm && decide (y = B.cn c) && gloB sc y && dbgB y && nsts as && !as.isEmpty && (mm B G N es sc).a as && ((G.exi c).isSome || G.xraw c) | _ => false
  | .tri body c nm suite, B => msS fun s => match s with
    | .Try p [.ExceptHandler (some (.Name x _)) n (b0 :: q) _] [] [] _ => B.cm && decide (x = B.cn c) && gloB sc x && dbgB x && G.isc c && (ms body B).b p && (match nm with
      | some i => (match n with | some n => decide (N[i]? = some n) && locB sc n && (ms suite { B with cm := false, xi := i }).b (b0 :: q) | none => false)
      | none => n.isNone && (ms suite { B with cm := false, xi := N.length }).b (b0 :: q))
    | _ => false
end
/-! ### what is wanted behind a statement -/
section
variable (CA : Ca) (K : PySem.W.Frag) (W : WX)
def PostS (H : Hp) (ρ : List Addr) (r : Rs) (D : Ends) : Prop := match r with
  | .nx e M => ∀ σ' H' ρ', St8 H ρ H' ρ' → Rel CA K H' ρ' e σ' M → D.nx σ' H'
  | .rt d M => ∀ v H' ρ', St8 H ρ H' ρ' → RS CA K H' ρ' M → RV K H' ρ' d v → D.rt v H'
  | .exc c fs e M => ∀ dd σ' H' ρ', St8 H ρ H' ρ' → Rel CA K H' ρ' e σ' M → XR K H' fs dd → W (.ref (CA c)) dd σ' H'
  | .bad => False
end
section
variable {CA : Ca} {K : PySem.W.Frag} {W : WX} {H H1 : Hp} {ρ ρ1 : List Addr} {σ : L2.St} {env : Env} {M : Store} {D : Ends}
theorem PostS.step {r : Rs} (s : St8 H ρ H1 ρ1) (p : PostS CA K W H ρ r D) : PostS CA K W H1 ρ1 r D := by
  cases r with
  | nx e M => exact fun σ' H' ρ' s' R => p σ' H' ρ' (s.trans s') R
  | rt d M => exact fun v H' ρ' s' R => p v H' ρ' (s.trans s') R
  | exc c fs e M => exact fun dd σ' H' ρ' s' R => p dd σ' H' ρ' (s.trans s') R
  | bad => exact p
theorem PostS.ends {r : Rs} {D' : Ends} (p : PostS CA K W H ρ r D) (h1 : ∀ σ H, D.nx σ H → D'.nx σ H) (h2 : ∀ v H, D.rt v H → D'.rt v H) : PostS CA K W H ρ r D' := by
  cases r with
  | nx e M => exact fun σ' H' ρ' s' R => h1 _ _ (p σ' H' ρ' s' R)
  | rt d M => exact fun v H' ρ' s' R r => h2 _ _ (p v H' ρ' s' R r)
  | exc c fs e M => exact p
  | bad => exact p
theorem PostS.run {α : Type} {o : Out α} {f : α → Store → Rs} (p : PostS CA K W H ρ (o.run env f) D) (rel : Rel CA K H ρ env σ M) : Post CA K W σ H ρ o (fun a M' H' ρ' => PostS CA K W H' ρ' (f a M') D) := by
  cases o with
  | ok a M' => exact fun H' ρ' s R => p.step s
  | exc c fs M' => exact fun dd H' ρ' s R x => p dd σ H' ρ' s (rel.next s R) x
  | bad => exact p
theorem PostS.andThen {r : Rs} {f : Env → Store → Rs} (p : PostS CA K W H ρ (r.andThen f) D) : PostS CA K W H ρ r { D with nx := fun σ' H' => ∃ ρ' e M', St8 H ρ H' ρ' ∧ Rel CA K H' ρ' e σ' M' ∧ PostS CA K W H' ρ' (f e M') D } := by
  cases r with
  | nx e M' => exact fun σ' H' ρ' s R => ⟨ρ', e, M', s, R, p.step s⟩
  | rt d M' => exact p
  | exc c fs e M' => exact p
  | bad => exact p
theorem PostS.here {e : Env} (p : PostS CA K W H ρ (.nx e M) D) (rel : Rel CA K H ρ e σ M) : D.nx σ H := p σ H ρ (St8.refl H ρ) rel
end
section
variable (CA : Ca) (X : Cx) (W : WX)
def SS (st : Stmt) (f : Env → Store → Rs) : Prop := ∀ (σ : L2.St) (H : Hp) (ρ : List Addr) (env : Env) (M : Store) (D : Ends), Rel CA X.K H ρ env σ M → PostS CA X.K W H ρ (f env M) D → TMS X st D σ H
def SB (l : List Stmt) (f : Env → Store → Rs) : Prop := ∀ (σ : L2.St) (H : Hp) (ρ : List Addr) (env : Env) (M : Store) (D : Ends), Rel CA X.K H ρ env σ M → PostS CA X.K W H ρ (f env M) D → TMB X l D σ H
structure AllS (f : Env → Store → Rs) (m : MtS) : Prop where
  s : ∀ st, m.s st = true → SS CA X W st f
  b : ∀ l, m.b l = true → SB CA X W l f
end
/-- C(e, ..) makes an exception with the fields fs -/
def XMk (X : Cx) (C : Addr) (x : Str) (fs : List Str) : Prop := ∀ (pn : List (Addr × Obj)) (xe : Value → Shared → Prop) (W : WX), Takes (X.tr pn xe) W → ∀ (e : Expr) (es : List Expr) (p pos : Pos) (t : TA), PA (X.tr pn xe) (e :: es) t → nsts (e :: es) = true → L2.Gl X x → (x == ("__debug__" : Str)) = false →
  PMk (X.tr pn xe) (.Call (.Name x p) (e :: es) [] pos) (fun σ H Q => t σ H fun vs H1 => vs.length = fs.length ∧ ∀ d, H1 d = none → Q (.ref C) (some d) (upd H1 d (.xd (fs.zip vs).reverse)))
/-- the context of a body's statements -/
structure Sc (G : Gl) (cl : Cl) (cu : Option (Nat × List (Str × D))) (B : Tb) (CA : Ca) (X : Cx) (W : WX) : Prop where
  cc : Cc G cl cu B CA X W
  own : B.cm = true → PassesOwn (model X.prog X.w) X.A X.env X.xe
  fnc : B.cm = true → ∀ y, X.fn y = true
  stk : X.stack = X.env :: X.outer
  frm : X.env.frame = some X.env.locals
  xrw : ∀ c, G.xraw c = true → X.mg (B.cn c) = some (.ref (CA c)) ∧ PySem.W.keepIn X.K (.ref (CA c)) = true ∧ Raises X (.ref (CA c)) ∧ ∃ T newId initId bmB, ExcBaseFacts T newId initId bmB ∧ PySem.W.excIn X.K (CA c) bmB newId = true
  xmk : B.cm = true → ∀ c fs, G.exi c = some fs → XMk X (CA c) (B.cn c) fs
end Dv
end

section
set_option Elab.async false
set_option autoImplicit false
set_option linter.all false
set_option maxRecDepth 100000
set_option maxHeartbeats 4000000
/-! DvO: a statement that matches does what the evaluator says, proved. -/
namespace Dv
open PySem L2
section
variable {CA : Ca} {X : Cx} {W : WX} {G : Gl} {cl : Cl} {B : Tb} {cu : Option (Nat × List (Str × D))}
theorem AllS.one {f : Env → Store → Rs} {g : Stmt → Bool} (h : ∀ st, g st = true → SS CA X W st f) : AllS CA X W f (msS g) := ⟨h, fun l h => by cases h⟩
theorem sl_nil : AllS CA X W (exS G cl .nil cu) (ms G X.N X.env.scope .nil B) := ⟨fun st h => (by cases h), fun l h => by
  cases l with
  | nil => exact fun σ H ρ env M D rel p => tm_pss pss_nil (p.here rel)
  | cons _ _ => cases h⟩
theorem sl_cons {x y : S} (hx : AllS CA X W (exS G cl x cu) (ms G X.N X.env.scope x B)) (hy : AllS CA X W (exS G cl y cu) (ms G X.N X.env.scope y B)) : AllS CA X W (exS G cl (.cons x y) cu) (ms G X.N X.env.scope (.cons x y) B) := ⟨fun st h => (by cases h), fun l h => by
  cases l with
  | nil => cases h
  | cons s r =>
    obtain ⟨h1, h2⟩ := Bool.and_eq_true_iff.mp (show ((ms G X.N X.env.scope x B).s s && (ms G X.N X.env.scope y B).b r) = true from h)
    refine fun σ H ρ env M D rel p => tm_pss (pss_cons (ps_tm X s) (pss_tm X r)) ?_
    refine hx.s s h1 σ H ρ env M _ rel (PostS.ends (PostS.andThen p) (fun σ' H' ⟨ρ', e, M', s', R, p'⟩ => ?_) fun _ _ q => q)
    exact hy.b r h2 σ' H' ρ' e M' D R p'⟩
theorem sl_pas : AllS CA X W (exS G cl .pas cu) (ms G X.N X.env.scope .pas B) := AllS.one fun st h => by
  split at h
  · exact fun σ H ρ env M D rel p => tm_ps ps_pass (p.here rel)
  · exact fun σ H ρ env M D rel p => tm_ps ps_doc (p.here rel)
  · cases h
theorem sl_retN : AllS CA X W (exS G cl .retN cu) (ms G X.N X.env.scope .retN B) := AllS.one fun st h => by
  split at h
  · exact fun σ H ρ env M D rel p => tm_ps ps_retN (p .non H ρ (St8.refl H ρ) rel.st of_non)
  · cases h
theorem sl_ret (c : Sc G cl cu B CA X W) {x : E} : AllS CA X W (exS G cl (.ret x) cu) (ms G X.N X.env.scope (.ret x) B) := AllS.one fun st h => by
  split at h
  · rename_i v _
    refine fun σ H ρ env M D rel p => tm_ps (ps_ret (pe_tm X v)) ?_
    exact (all_ok x X W c.cc).e v h σ H ρ env M _ rel ((PostS.run p rel).mono fun d M1 H1 ρ1 _ s1 R1 p1 v hv => p1 v H1 ρ1 (St8.refl H1 ρ1) R1 hv)
  · cases h
theorem sl_ex (c : Sc G cl cu B CA X W) {x : E} : AllS CA X W (exS G cl (.ex x) cu) (ms G X.N X.env.scope (.ex x) B) := AllS.one fun st h => by
  split at h
  · rename_i v _
    obtain ⟨h1, h2⟩ := Bool.and_eq_true_iff.mp h
    refine fun σ H ρ env M D rel p => tm_ps (ps_expr (pe_tm X v) (ncmp_ok h2 _ _ X.env)) ?_
    exact (all_ok x X W c.cc).e v h1 σ H ρ env M _ rel ((PostS.run p rel).mono fun d M1 H1 ρ1 _ s1 R1 p1 v hv => p1.here (rel.next s1 R1))
  · cases h
theorem sl_ite (c : Sc G cl cu B CA X W) {x : E} {a b : S} (ha : AllS CA X W (exS G cl a cu) (ms G X.N X.env.scope a B)) (hb : AllS CA X W (exS G cl b cu) (ms G X.N X.env.scope b B)) : AllS CA X W (exS G cl (.ite x a b) cu) (ms G X.N X.env.scope (.ite x a b) B) := AllS.one fun st h => by
  split at h
  · rename_i v p q _
    simp only [Bool.and_eq_true] at h
    obtain ⟨⟨h1, h2⟩, h3⟩ := h
    refine fun σ H ρ env M D rel pp => tm_ps (ps_if (pt_tm X v) (pss_tm X p) (pss_tm X q)) ?_
    refine (all_ok x X W c.cc).t v h1 σ H ρ env M _ rel ((PostS.run pp rel).mono fun b M1 H1 ρ1 _ s1 R1 p1 => ?_)
    cases b with
    | true => exact ha.b p h2 σ H1 ρ1 env M1 D (rel.next s1 R1) p1
    | false => exact hb.b q h3 σ H1 ρ1 env M1 D (rel.next s1 R1) p1
  · cases h
theorem swt_other {v : Expr} {t : Expr} (h : ∀ y p, t ≠ .Name y p) (l : Nat) (env : PySem.Env) : swapsWith v (some t) l env = pure false := by
  cases v <;> first | rfl | (cases t <;> first | rfl | exact absurd rfl (h _ _))
theorem sws_tup {es : List Expr} {k : Nat} {p : Pos} {v : Expr} (h : ntup v = true) (env : PySem.Env) : swappedStores [.Tuple es k p] v env = pure none := by
  cases v <;> first | rfl | cases h
theorem asgn_sub {o i : Expr} {pos : Pos} (h : nsl i = true) (env : PySem.Env) (v : Value) : assign (.Subscript o i pos) env v = (do
      let ov ← holding [v] (eval o env)
      let iv ← holding [v, ov] (eval i env)
      standAt pos
      holding [v, ov, iv] (setItem ov iv v)
      release [v, ov, iv] []) := by
  cases i <;> first | rfl | cases h
theorem PostS.set {H : Hp} {ρ : List Addr} {σ : L2.St} {env : Env} {M : Store} {D : Ends} {i : Nat} {d : Dv.D} {v : V} (p : PostS CA X.K W H ρ (.nx (env.set i (some d)) M) D) (hs : ∀ σ H, CA.sg σ H) (rel : Rel CA X.K H ρ env σ M) (hv : RV X.K H ρ d v) : D.nx (σ.set i (some v)) H :=
  p.here ⟨rel.st, rel.en.set i hv, hs _ _⟩
theorem putF_map {H : Hp} {ρ : List Addr} {f : Str} {d : D} {v : V} (hv : RV X.K H ρ d v) : ∀ {fs : List (Str × Dv.D)} {ws : List (Str × V)}, ws.map (·.1) = fs.map (·.1) → RVs X.K H ρ (fs.map (·.2)) (ws.map (·.2)) →
    (putF f v ws).map (·.1) = (putD f d fs).map (·.1) ∧ RVs X.K H ρ ((putD f d fs).map (·.2)) ((putF f v ws).map (·.2))
  | [], [], _, _ => ⟨rfl, RVs.cons hv RVs.nil⟩
  | [], _ :: _, h, _ => by cases h
  | _ :: _, [], h, _ => by cases h
  | (g, x) :: fs, (g', y) :: ws, h1, h2 => by
    simp only [List.map_cons, List.cons.injEq] at h1
    obtain ⟨rfl, h1⟩ := h1
    simp only [List.map_cons, RVs] at h2
    obtain ⟨w, r, e, h2, h3⟩ := h2
    simp only [List.cons.injEq] at e
    obtain ⟨rfl, rfl⟩ := e
    unfold putD putF
    by_cases e : g' = f
    · rw [if_pos e, if_pos e]
      exact ⟨by simp [h1, e], RVs.cons hv h3⟩
    · rw [if_neg e, if_neg e]
      obtain ⟨a, b⟩ := putF_map hv h1 h3
      exact ⟨by simp [a], RVs.cons h2 b⟩
theorem sl_asg (c : Sc G cl cu B CA X W) {t : T} {x : E} : AllS CA X W (exS G cl (.asg t x) cu) (ms G X.N X.env.scope (.asg t x) B) := AllS.one fun st h => by
  split at h
  · rename_i tg v pos
    unfold asgM at h
    have A := all_ok (cu := cu) x X W c.cc
    cases t with
    | nm i =>
      simp only at h
      split at h
      · rename_i y py
        simp only [Bool.and_eq_true, decide_eq_true_eq, Bool.or_eq_true] at h
        obtain ⟨⟨⟨⟨h1, h2⟩, h3⟩, h4⟩, h5⟩ := h
        obtain ⟨l1, l2⟩ := lcl_both (X := X) (fun _ => c.fnc h1) h3
        intro σ H ρ env M D rel p
        have q := PostS.run (σ := σ) p rel
        have go : (∀ py : Pos, swapsWith v (some (.Name y py)) pos.line X.env = pure false) → TMS X (.Assign [.Name y py] v pos) D σ H := fun hsw => by
          refine tm_ps (ps_set c.cc.nd h2 l1 (pe_tm X v) (hsw py) l2) ?_
          exact A.e v h4 σ H ρ env M _ rel (q.mono fun d M1 H1 ρ1 _ s1 R1 p1 v hv => PostS.set p1 (c.cc.sgc h1) (rel.next s1 R1) hv)
        rcases h5 with (h5 | h5) | ⟨h5, h6⟩
        · exact go fun _ => ncmp_ok h5 _ _ X.env
        · split at h5
          · rename_i lk
            refine go fun py => ?_
            have bk : X.env.blockKind = .function := by unfold Env.blockKind; rw [c.cc.kind]; rfl
            have kd : X.env.kindOf y = some .cell := lk
            cases v <;> first | rfl | (unfold swapsWith; simp only [kd, bk]; rfl)
          · cases h5
        · split at h5
          · rename_i a tgs sole own b d
            have l : X.env.scope.names.lookup y = some .local := locB_ok h6.1
            replace h6 := h6.2
            have h4 : (match (generalizing := false) v with
              | .ListComp l [⟨t, src, ifs, k⟩] s2 _ => B.cm && decide (k = 0) && (mm B G X.N b X.env.scope).i src && nset src && blkC X.N X.env.scope s2 (ownP X.N own) && decide ((ownP X.N own).map (·.2) = own) && tgs.all (fun i => own.contains i) && tgM X.N false (relS s2 X.env.scope) tgs sole t && (mm B G X.N d (relS s2 X.env.scope)).c ifs && (mm B G X.N a (relS s2 X.env.scope)).e l
              | _ => false) = true := h4
            split at h4
            · rename_i l' t src ifs k s2 lpos _
              simp only [Bool.and_eq_true, decide_eq_true_eq] at h4
              obtain ⟨⟨⟨⟨⟨⟨⟨⟨⟨hb, rfl⟩, k1⟩, k2⟩, k3⟩, k4⟩, k5⟩, k6⟩, k7⟩, k8⟩ := h4
              have ok := blkOk_by k3
              obtain ⟨m1, m2⟩ := Bool.and_eq_true_iff.mp (show ((py.line == lpos.line) && !(s2.names.any fun (n, k) => n == y && (k == .local || k == .cell))) = true from h6)
              refine tm_ps (ps_setLc (c.cc.calm hb) c.cc.nd h2 l (sw_true c.cc.kind l m1 (by simpa using m2)) (pi_tm X t src) ok (g := gT X.K tgs sole) (fun s H C cs fp => tgM_ok (X := blkX X s2 s H C cs fp) (fc := false) (fun z => by cases z) c.cc.nd (c.cc.calm hb) k6) ptb peb (nset_ok k2 X.env)) ?_
              refine lc_t (fi := (ev G cl cu b).i) (fc := fun e M => (ev G cl cu d).c e M) (fe := fun e M => (ev G cl cu a).e e M) ((all_ok (cu := cu) b X W c.cc).i t src k1) (fun i hi => by
                rw [k4]
                have := List.all_eq_true.mp k5 i hi
                simpa using this) (fun s H C cs fp => (all_ok (cu := cu) d _ _ (c.cc.blk hb ok.kind s H C cs fp)).c ifs k7) (fun s H C cs fp => (all_ok (cu := cu) a _ _ (c.cc.blk hb ok.kind s H C cs fp)).e l' k8) (c.cc.sgc hb) rel ?_
              rw [k4]
              exact q.mono fun d M1 H1 ρ1 _ s1 R1 p1 v hv => PostS.set p1 (c.cc.sgc h1) (rel.next s1 R1) hv
            · cases h4
          · cases h5
      · cases h
    | tp is =>
      simp only [Bool.and_eq_true] at h
      obtain ⟨⟨⟨⟨h1, h2⟩, h3⟩, h4⟩, h5⟩ := h
      intro σ H ρ env M D rel p
      have g := tgM_ok (fun _ => c.fnc h1) c.cc.nd (c.cc.calm h1) h2
      unfold tgM at h2
      simp only at h2
      split at h2
      · rename_i es k tp
        refine tm_ps (ps_asg (pe_tm X v) g (ncmp_ok h4 (some (.Tuple es k tp)) pos.line X.env) (sws_tup h5 X.env) rfl) ?_
        refine A.e v h3 σ H ρ env M _ rel ((PostS.run p rel).mono fun d M1 H1 ρ1 eo s1 R1 p1 v hv => ?_)
        clear eo
        replace p1 : PostS CA X.K W H1 ρ1 (match (generalizing := false) d with
          | .tup ds => match (generalizing := false) bindN is ds env with
            | some e' => .nx e' M1
            | none => .bad
          | _ => .bad) D := p1
        split at p1
        · rename_i ds
          split at p1
          · rename_i e' be
            exact gT_ok (vs := []) hv (show bindT is false (.tup ds) env = some e' from be) (rel.next s1 R1).en fun σ' re _ => p1.here ⟨R1, re, c.cc.sgc h1 _ _⟩
          · exact p1.elim
        · exact p1.elim
      · cases h2
    | sub o i =>
      simp only at h
      split at h
      · rename_i l r sp
        simp only [Bool.and_eq_true] at h
        obtain ⟨⟨⟨⟨⟨h1, h2⟩, h3⟩, h4⟩, h5⟩, h6⟩ := h
        intro σ H ρ env M D rel p
        refine tm_ps (ps_asg (pe_tm X v) (pg_sub (pe_tm X l) (pe_tm X r) set_tm (asgn_sub h4 X.env)) (ncmp_ok h6 (some (.Subscript l r sp)) pos.line X.env) rfl rfl) ?_
        refine A.e v h5 σ H ρ env M _ rel ((PostS.run p rel).mono fun d M1 H1 ρ1 _ s1 R1 p1 z hz => ?_)
        have r1 := rel.next s1 R1
        refine (all_ok (cu := cu) o X W c.cc).e l h2 σ H1 ρ1 env M1 _ r1 ((PostS.run p1 r1).mono fun a M2 H2 ρ2 _ s2 R2 p2 v2 hv2 => ?_)
        have r2 := r1.next s2 R2
        refine (all_ok (cu := cu) i X W c.cc).e r h3 σ H2 ρ2 env M2 _ r2 ((PostS.run p2 r2).mono fun b M3 H3 ρ3 _ s3 R3 p3 v3 hv3 => ?_)
        have r3 := r2.next s3 R3
        refine setE_ok (W := W) (σ := σ) (by have := c.cc.un; omega) R3 (RV.mono R2 s3 _ _ hv2) hv3 (RV.mono R2 s3 _ _ (RV.mono R1 s2 _ _ hz)) ?_
        exact (PostS.run p3 r3).mono fun _ M4 H4 ρ4 _ s4 R4 p4 => p4.here (r3.next s4 R4)
      · cases h
    | att o f =>
      simp only at h
      split at h
      · rename_i l g ap
        simp only [Bool.and_eq_true, decide_eq_true_eq] at h
        obtain ⟨⟨⟨h1, rfl⟩, h2⟩, h3⟩ := h
        intro σ H ρ env M D rel p
        refine tm_ps (ps_fld (pe_tm X l) (pe_tm X v) (swt_other (fun _ _ z => by cases z) _ X.env)) ?_
        refine A.e v h3 σ H ρ env M _ rel ((PostS.run p rel).mono fun d M1 H1 ρ1 _ s1 R1 p1 z hz => ?_)
        have r1 := rel.next s1 R1
        refine (all_ok (cu := cu) o X W c.cc).e l h2 σ H1 ρ1 env M1 _ r1 ((PostS.run p1 r1).mono fun a M2 H2 ρ2 _ s2 R2 p2 v2 hv2 => ?_)
        have r2 := r1.next s2 R2
        have p3 := PostS.run (σ := σ) p2 r2
        unfold attE at p3
        split at p3
        · split at p3
          · rename_i n C fs q
            obtain ⟨⟨l1, l2⟩, p4⟩ := p3.if_
            obtain ⟨k1, k2⟩ := c.cc.fld C f l2
            obtain ⟨ad, u, rfl, ea, e2, dx, ws, rfl, e3, e4⟩ := rv_obj R2 hv2 q
            obtain ⟨m1, m2⟩ := putF_map (f := f) (RV.mono R1 s2 _ _ hz) e3 e4
            have ma : ad ∈ ρ2 := List.mem_of_getElem? ea
            have s3 : St8 H2 ρ2 (upd H2 ad (.ins (CA C) dx (putF f z ws))) ρ2 := St8.write ma
            have R3 := R2.write (o := .ins (CA C) dx (putF f z ws)) (ob := .ins C (putD f d fs)) ea ⟨dx, _, rfl, m1, m2⟩
            refine ⟨ad, CA C, dx, ws, rfl, e2, k1, k2, ?_, ?_⟩
            · have : ws.length = fs.length := by rw [← List.length_map (f := (·.1)), e3, List.length_map]
              omega
            · exact (p4 _ _ s3 R3).here (r2.next s3 R3)
          · exact p3.elim
        · exact p3.elim
      · cases h
  · cases h
theorem sl_for (c : Sc G cl cu B CA X W) {tg : List Nat} {sole : Bool} {x : E} {a : S} (ha : AllS CA X W (exS G cl a cu) (ms G X.N X.env.scope a B)) : AllS CA X W (exS G cl (.for_ tg sole x a) cu) (ms G X.N X.env.scope (.for_ tg sole x a) B) := AllS.one fun st h => by
  split at h
  · rename_i t' it' pb pos
    simp only [Bool.and_eq_true] at h
    obtain ⟨⟨⟨⟨h1, h2⟩, h3⟩, h4⟩, h5⟩ := h
    intro σ H ρ env M D rel p
    refine tm_ps (ps_for (c.own h1) (c.cc.calm h1) (pi_tm X t' it') (tgM_ok (fun _ => c.fnc h1) c.cc.nd (c.cc.calm h1) h4) (pss_tm X pb) (nset_ok h3 X.env)) ?_
    refine (all_ok (cu := cu) x X W c.cc).i t' it' h2 σ H ρ env M _ rel ((PostS.run p rel).mono fun s M1 H1 ρ1 _ s1 R1 p1 J iok => ?_)
    refine ⟨fun i m σ' H' => i ≤ s.items.length ∧ m = s.items.length - i ∧ ∃ ρ' e' M', St8 H1 ρ1 H' ρ' ∧ Rel CA X.K H' ρ' e' σ' M' ∧ PostS CA X.K W H' ρ' (forL s tg sole (exS G cl a cu) (s.items.drop i) e' M') D,
      ⟨s.items.length, Nat.zero_le _, by simp, ρ1, env, M1, St8.refl _ _, rel.next s1 R1, p1⟩, ?_⟩
    rintro i m σ' H' ⟨hi, rfl, ρ', e', M', s', rel', pp⟩
    by_cases hlt : i < s.items.length
    · rw [List.drop_eq_getElem_cons hlt] at pp
      unfold forL at pp
      by_cases st : s.stands M' = true
      · rw [if_pos st] at pp
        split at pp
        · rename_i e2 be
          have it := (iok i H' ρ' M' s' rel'.st st).1 s.items[i] (List.getElem?_eq_getElem hlt)
          refine .inr ⟨it.1, fun σ'' H'' => ∃ ρ' e' M', St8 H1 ρ1 H'' ρ' ∧ Rel CA X.K H'' ρ' e' σ'' M' ∧ PostS CA X.K W H'' ρ' (forL s tg sole (exS G cl a cu) (s.items.drop (i + 1)) e' M') D, fun σ'' H'' z => ⟨_, by omega, hlt, rfl, z⟩, fun y H'' yl => ?_⟩
          obtain ⟨rfl, rx⟩ := it.2 y H'' yl
          refine gT_ok (vs := []) rx be rel'.en fun σ2 re2 _ => ?_
          refine ha.b pb h5 σ2 H'' ρ' e2 M' _ ⟨rel'.st, re2, c.cc.sgc h1 _ _⟩ (PostS.ends (PostS.andThen pp) (fun σ3 H3 ⟨ρ3, e3, M3, s3, rel3, p3⟩ => ⟨ρ3, e3, M3, s'.trans s3, rel3, p3⟩) fun _ _ q => q)
        · exact pp.elim
      · rw [if_neg st] at pp
        exact pp.elim
    · have e : i = s.items.length := by omega
      subst e
      rw [List.drop_length] at pp
      unfold forL at pp
      by_cases st : s.stands M' = true
      · rw [if_pos st] at pp
        exact .inl ⟨(iok s.items.length H' ρ' M' s' rel'.st st).2 rfl, pp.here rel'⟩
      · rw [if_neg st] at pp
        exact pp.elim
  · cases h
theorem sl_whl (c : Sc G cl cu B CA X W) {x : E} {a : S} (ha : AllS CA X W (exS G cl a cu) (ms G X.N X.env.scope a B)) : AllS CA X W (exS G cl (.whl x a) cu) (ms G X.N X.env.scope (.whl x a) B) := AllS.one fun st h => by
  split at h
  · rename_i c' pb pos
    simp only [Bool.and_eq_true] at h
    obtain ⟨⟨h1, h2⟩, h3⟩ := h
    intro σ H ρ env M D rel p
    refine tm_ps (ps_while (c.own h1) (pt_tm X c') (pss_tm X pb)) ?_
    refine ⟨fun n σ' H' => ∃ ρ' e' M', Rel CA X.K H' ρ' e' σ' M' ∧ PostS CA X.K W H' ρ' (whlL (evT G cl cu x) (exS G cl a cu) n e' M') D, ⟨100000, ρ, env, M, rel, p⟩, ?_⟩
    rintro n σ' H' ⟨ρ', e', M', rel', pp⟩
    cases n with
    | zero => exact pp.elim
    | succ n =>
      unfold whlL at pp
      refine (all_ok (cu := cu) x X W c.cc).t c' h2 σ' H' ρ' e' M' _ rel' ((PostS.run pp rel').mono fun b M1 H1 ρ1 _ s1 R1 p1 => ?_)
      cases b with
      | false => exact p1.here (rel'.next s1 R1)
      | true =>
        refine ⟨fun σ'' H'' => ∃ ρ' e' M', Rel CA X.K H'' ρ' e' σ'' M' ∧ PostS CA X.K W H'' ρ' (whlL (evT G cl cu x) (exS G cl a cu) n e' M') D, fun σ'' H'' z => ⟨n, Nat.lt_succ_self n, z⟩, ?_⟩
        exact ha.b pb h3 σ' H1 ρ1 e' M1 _ (rel'.next s1 R1) (PostS.ends (PostS.andThen p1) (fun σ3 H3 ⟨ρ3, e3, M3, s3, rel3, p3⟩ => ⟨ρ3, e3, M3, rel3, p3⟩) fun _ _ q => q)
  · cases h
mutual
theorem RV.bare {K : PySem.W.Frag} {H : Hp} {ρ : List Addr} : ∀ (d : Dv.D) (v : V), d.und 0 = true → RV K H ρ d v → RV K H [] d v
  | .non, v, _, h => by simp only [RV] at h ⊢; exact h
  | .bl b, v, _, h => by simp only [RV] at h ⊢; exact h
  | .int i, v, _, h => by simp only [RV] at h ⊢; exact h
  | .str z, v, _, h => by simp only [RV] at h ⊢; exact h
  | .loc n, v, u, h => by simp [D.und] at u
  | .rol xs, v, _, h => by simp only [RV] at h ⊢; exact h
  | .tup ds, v, u, h => by
    simp only [RV] at h ⊢
    obtain ⟨t, vs, rfl, e, r⟩ := h
    exact ⟨t, vs, rfl, e, RVs.bare ds vs (by simpa [D.und] using u) r⟩
  | .ktp xs, v, _, h => by simp only [RV] at h ⊢; exact h
theorem RVs.bare {K : PySem.W.Frag} {H : Hp} {ρ : List Addr} : ∀ (ds : List Dv.D) (vs : List V), undL 0 ds = true → RVs K H ρ ds vs → RVs K H [] ds vs
  | [], vs, _, h => by simp only [RVs] at h ⊢; exact h
  | d :: ds, vs, u, h => by
    simp only [RVs] at h ⊢
    obtain ⟨v, r, rfl, h1, h2⟩ := h
    obtain ⟨u1, u2⟩ := Bool.and_eq_true_iff.mp (show (d.und 0 && undL 0 ds) = true from u)
    exact ⟨v, r, rfl, RV.bare d v u1 h1, RVs.bare ds r u2 h2⟩
end
theorem XR.zip {K : PySem.W.Frag} {H : Hp} {ρ : List Addr} {fs : List Str} {ds : List Dv.D} {vs : List V} {d : Addr} (r : RVs K H ρ ds vs) (l : ds.length = fs.length) (ne : fs ≠ []) (u : undL 0 ds = true) (e : H d = some (.xd (fs.zip vs).reverse)) : XR K H (fs.zip ds).reverse (some d) := by
  have lv : vs.length = fs.length := (RVs.length r).trans l
  refine ⟨fun z => ?_, _, e, fun f x h => ?_⟩
  · have z := congrArg List.length z
    rw [List.length_reverse, List.length_zip, l, Nat.min_self] at z
    exact ne (List.eq_nil_of_length_eq_zero z)
  · refine lookup_rv (fs := (fs.zip ds).reverse) ?_ ?_ h
    · rw [List.map_reverse, List.map_reverse, List.map_fst_zip (by omega), List.map_fst_zip (by omega)]
    · rw [List.map_reverse, List.map_reverse, List.map_snd_zip (by omega), List.map_snd_zip (by omega)]
      exact RVs.rev (RVs.bare ds vs u r)
theorem sl_rai (c : Sc G cl cu B CA X W) {k : Nat} {x : E} : AllS CA X W (exS G cl (.rai k x) cu) (ms G X.N X.env.scope (.rai k x) B) := AllS.one fun st h => by
  split at h
  · rename_i y yp as cp pos
    simp only [Bool.and_eq_true, decide_eq_true_eq] at h
    obtain ⟨⟨⟨⟨⟨⟨⟨hb, rfl⟩, h2⟩, h3⟩, h4⟩, h5⟩, h6⟩, h7⟩ := h
    obtain ⟨d1, d2, _⟩ := dbgB_ok h3
    cases as with
    | nil => cases h5
    | cons a r =>
      obtain ⟨n1, n2⟩ := Bool.and_eq_true_iff.mp (show (nst a && nsts r) = true from h4)
      intro σ H ρ env M D rel p
      have A := (all_ok (cu := cu) x X W c.cc).a (a :: r) h6
      have p : PostS CA X.K W H ρ (((ev G cl cu x).a env M).run env fun vs M1 => raiE G k vs env M1) D := p
      have q := PostS.run (σ := σ) p rel
      cases he : G.exi k with
      | none =>
        rw [he] at h7
        obtain ⟨g1, g2, g3, T, ni, ii, bm, F, g4⟩ := c.xrw k (by simpa using h7)
        refine tm_ps (ps_raise (c.cc.calm hb) c.cc.tk (pmk_ownA F g4 g1 g2 g3 (gl_of h2) (pa_tm X (a :: r)) d1 (nst_ok n1 r X.env) (plain_ok n2 _ X.env))) ?_
        refine A σ H ρ env M _ rel (q.mono fun ds M1 H1 ρ1 _ s1 R1 p1 vs hv => ?_)
        unfold raiE at p1
        rw [he] at p1
        simp only at p1
        by_cases l : ds.length = 1
        · rw [if_pos l] at p1
          refine ⟨by rw [RVs.length hv, l, PySem.sizeLine_eq]; omega, p1 none σ H1 ρ1 (St8.refl _ _) (rel.next s1 R1) rfl⟩
        · rw [if_neg l] at p1
          exact p1.elim
      | some fs =>
        refine tm_ps (ps_raise (c.cc.calm hb) c.cc.tk (c.xmk hb k fs he X.pn X.xe W c.cc.tk a r _ _ _ (pa_tm X (a :: r)) h4 (gl_of h2) d1)) ?_
        refine A σ H ρ env M _ rel (q.mono fun ds M1 H1 ρ1 _ s1 R1 p1 vs hv => ?_)
        unfold raiE at p1
        rw [he] at p1
        simp only at p1
        by_cases l : ds.length = fs.length ∧ fs ≠ [] ∧ undL 0 ds = true
        · rw [if_pos l] at p1
          refine ⟨(RVs.length hv).trans l.1, fun d hd => ?_⟩
          have s2 : St8 H1 ρ1 (upd H1 d (.xd (fs.zip vs).reverse)) ρ1 := St8.lay hd
          have R2 : RS CA X.K (upd H1 d (.xd (fs.zip vs).reverse)) ρ1 M1 := R1.lay hd
          exact p1 (some d) σ _ ρ1 s2 ((rel.next s1 R1).next s2 R2) (XR.zip (RVs.mono R1 s2 _ _ hv) l.1 l.2.1 l.2.2 upd_same)
        · rw [if_neg l] at p1
          exact p1.elim
  · cases h
end
theorem Kp.of {H H' : Hp} {ρ ρ' : List Addr} (s : St8 H ρ H' ρ') (c : ∀ p, p ∈ ρ → ∃ o, H p = some o ∧ (∀ fs, o ≠ .xd fs) ∧ (∀ xs, o ≠ .tup xs) ∧ ∀ ob u, o ≠ .frz ob u) : Kp H H' where
  t := fun a xs e => s.frm _ _ e fun m => by
    obtain ⟨o, e', _, h, _⟩ := c a m
    rw [e] at e'
    cases e'
    exact h _ rfl
  f := fun a ob u e => s.frm _ _ e fun m => by
    obtain ⟨o, e', _, _, h⟩ := c a m
    rw [e] at e'
    cases e'
    exact h _ _ rfl
theorem XR.keep {K : PySem.W.Frag} {H H' : Hp} {ρ ρ' : List Addr} {fs : List (Str × D)} {d : Option Addr} (s : St8 H ρ H' ρ') (c : ∀ p, p ∈ ρ → ∃ o, H p = some o ∧ (∀ fs, o ≠ .xd fs) ∧ (∀ xs, o ≠ .tup xs) ∧ ∀ ob u, o ≠ .frz ob u) (x : XR K H fs d) : XR K H' fs d := by
  cases d with
  | none => exact x
  | some d =>
    obtain ⟨ne, ws, e, h⟩ := x
    refine ⟨ne, ws, s.frm _ _ e fun m => ?_, fun f y hy => ?_⟩
    · obtain ⟨o, e', h, _⟩ := c d m
      rw [e] at e'
      cases e'
      exact h _ rfl
    · obtain ⟨v, e1, e2⟩ := h f y hy
      exact ⟨v, e1, RV.keep (Kp.of s c) (List.prefix_refl _) _ _ e2⟩
/-- what is known of the slots in a suite -/
def Ca.held (CA : Ca) (K : PySem.W.Frag) (i : Nat) (a : Addr) (fs : List (Str × D)) (d : Option Addr) : Ca where
  a := CA.a
  sg := fun σ H => σ[i]? = some (some (.ref a)) ∧ XR K H fs d
  mono := fun s c h => ⟨h.1, XR.keep s c h.2⟩
theorem RE.hole {K : PySem.W.Frag} {H : Hp} {ρ : List Addr} {e : Env} {σ : L2.St} (r : RE K H ρ e σ) (i : Nat) (x : Option V) : RE K H ρ (e.set i none) (σ.set i x) := by
  refine ⟨by simp [r.1], fun j y hy => ?_⟩
  by_cases hj : i = j
  · subst hj
    by_cases hi : i < e.length
    · rw [List.getElem?_set_self hi] at hy
      cases hy
    · rw [List.getElem?_eq_none (by simpa using hi)] at hy
      cases hy
  · rw [List.getElem?_set_ne hj] at hy ⊢
    exact r.2 j y hy
section
variable {CA : Ca} {X : Cx} {W : WX} {G : Gl} {cl : Cl} {B : Tb} {cu : Option (Nat × List (Str × D))}
theorem Sc.tr (c : Sc G cl cu B CA X W) (hb : B.cm = true) {W' : WX} {pn : List (Addr × Obj)} {xe : Value → Shared → Prop} (tk : Takes (X.tr pn xe) W') (po : PassesOwn (model X.prog X.w) X.A X.env xe) : Sc G cl cu B CA (X.tr pn xe) W' where
  cc := {
    nd := c.cc.nd
    tk := tk
    un := c.cc.un
    calm := c.cc.calm
    kind := c.cc.kind
    bln := c.cc.bln
    tyn := c.cc.tyn
    rgn := c.cc.rgn
    isn := c.cc.isn
    con := c.cc.con
    fns := c.cc.fns
    mth := c.cc.mth
    mak := c.cc.mak
    fld := c.cc.fld
    sgc := c.cc.sgc
    cuc := c.cc.cuc
    xcl := c.cc.xcl
    xsb := c.cc.xsb
    xfl := c.cc.xfl
    xc := fun k fs e => by rw [c.cc.cuc hb] at e; cases e }
  own := fun _ => po
  fnc := c.fnc
  stk := c.stk
  frm := c.frm
  xrw := c.xrw
  xmk := c.xmk
theorem Sc.held (c : Sc G cl cu B CA X W) {k i : Nat} {fs : List (Str × D)} (hk : G.isc k = true) {a : Addr} {oe : Obj} {d : Option Addr} {pn : List (Addr × Obj)} (hz : Zc (.ref (CA k)) d oe) (hf : ∃ vs, oe.data = .fields vs) :
    Sc G cl (some (k, fs)) { B with cm := false, xi := i } (CA.held X.K i a fs d) (X.suite a ((a, oe) :: pn)) W0 where
  cc := {
    nd := c.cc.nd
    tk := takes_none5
    un := c.cc.un
    calm := fun z => by cases z
    kind := c.cc.kind
    bln := c.cc.bln
    tyn := c.cc.tyn
    rgn := c.cc.rgn
    isn := c.cc.isn
    con := c.cc.con
    fns := fun z => by cases z
    mth := fun z => by cases z
    mak := fun z => by cases z
    fld := c.cc.fld
    sgc := fun z => by cases z
    cuc := fun z => by cases z
    xcl := c.cc.xcl
    xsb := c.cc.xsb
    xfl := c.cc.xfl
    xc := fun k' fs' e => by
      cases e
      exact ⟨hk, a, oe, d, pn, X, rfl, hz, hf, fun σ H h => h⟩ }
  own := fun z => by cases z
  fnc := fun z => by cases z
  stk := c.stk
  frm := c.frm
  xrw := c.xrw
  xmk := fun z => by cases z
theorem Sc.bare (c : Sc G cl cu B CA X W) {i : Nat} {a : Addr} {oe : Obj} {pn : List (Addr × Obj)} :
    Sc G cl none { B with cm := false, xi := i } CA (X.suite a ((a, oe) :: pn)) W0 where
  cc := {
    nd := c.cc.nd
    tk := takes_none5
    un := c.cc.un
    calm := fun z => by cases z
    kind := c.cc.kind
    bln := c.cc.bln
    tyn := c.cc.tyn
    rgn := c.cc.rgn
    isn := c.cc.isn
    con := c.cc.con
    fns := fun z => by cases z
    mth := fun z => by cases z
    mak := fun z => by cases z
    fld := c.cc.fld
    sgc := fun z => by cases z
    cuc := fun z => by cases z
    xcl := c.cc.xcl
    xsb := c.cc.xsb
    xfl := c.cc.xfl
    xc := fun k' fs' e => by cases e }
  own := fun z => by cases z
  fnc := fun z => by cases z
  stk := c.stk
  frm := c.frm
  xrw := c.xrw
  xmk := fun z => by cases z
theorem sl_tri (c : Sc G cl cu B CA X W) {body suite : S} {k : Nat} {nm : Option Nat}
    (hbody : ∀ (W' : WX) (pn : List (Addr × Obj)) (xe : Value → Shared → Prop), Sc G cl cu B CA (X.tr pn xe) W' → AllS CA (X.tr pn xe) W' (exS G cl body cu) (ms G X.N X.env.scope body B))
    (hsuite : ∀ (cu' : Option (Nat × List (Str × D))) (B' : Tb) (CA' : Ca) (X' : Cx) (W' : WX), Sc G cl cu' B' CA' X' W' → AllS CA' X' W' (exS G cl suite cu') (ms G X'.N X'.env.scope suite B')) :
    AllS CA X W (exS G cl (.tri body k nm suite) cu) (ms G X.N X.env.scope (.tri body k nm suite) B) := AllS.one fun st h => by
  split at h
  · rename_i pb x xp n b0 q hp pos
    simp only [Bool.and_eq_true, decide_eq_true_eq] at h
    obtain ⟨⟨⟨⟨⟨⟨hb, rfl⟩, h2⟩, h3⟩, h4⟩, h5⟩, h6⟩ := h
    obtain ⟨d1, d2, _⟩ := dbgB_ok h3
    have nam : Names X (B.cn k) (.ref (CA k)) := ⟨gl_of h2, d1, .inl (c.cc.xcl k h4).1⟩
    intro σ H ρ env M D rel p
    have p : PostS CA X.K W H ρ (match (generalizing := false) exS G cl body cu env M with
      | .exc j fs e1 M1 => if G.isc j = true then
          if G.sub j k = true then endTry nm (exS G cl suite (match (generalizing := false) nm with | some _ => some (j, fs) | none => none) (match (generalizing := false) nm with | some i => e1.set i none | none => e1) M1) else .exc j fs e1 M1
        else .bad
      | r => r) D := p
    have tbl : ∀ W' : WX, ∀ (pn : List (Addr × Obj)) (xe : Value → Shared → Prop), Takes (X.tr pn xe) W' → PassesOwn (model X.prog X.w) X.A X.env xe → PSs (X.tr pn xe) pb (fun D σ H => ∀ (pn : List (Addr × Obj)) (xe : Value → Shared → Prop), Takes (X.tr pn xe) W' → PassesOwn (model X.prog X.w) X.A X.env xe → TMB (X.tr pn xe) pb D σ H) :=
      fun W' pn xe tk po => ⟨fun pins s σ H D I h => h pn xe tk po pins s I⟩
    have tsl : ∀ (a : Addr) (oe : Obj) (cls : Value) (d : Option Addr) (pn : List (Addr × Obj)), Zc cls d oe → (∃ vs, oe.data = .fields vs) → PSs (X.suite a ((a, oe) :: pn)) (b0 :: q) (fun D σ H => ∀ (oe : Obj) (pn : List (Addr × Obj)), Zc cls d oe → (∃ vs, oe.data = .fields vs) → TMB (X.suite a ((a, oe) :: pn)) (b0 :: q) D σ H) :=
      fun a oe cls d pn hz hf => ⟨fun pins s σ H D I h => h oe pn hz hf pins s I⟩
    cases nm with
    | some i =>
      simp only at h6
      cases n with
      | none => cases h6
      | some n =>
        simp only [Bool.and_eq_true, decide_eq_true_eq] at h6
        obtain ⟨⟨e1, e2⟩, e3⟩ := h6
        refine tm_ps (ps_try_as (ts := fun a cls d D σ H => ∀ (oe : Obj) (pn : List (Addr × Obj)), Zc cls d oe → (∃ vs, oe.data = .fields vs) → TMB (X.suite a ((a, oe) :: pn)) (b0 :: q) D σ H) c.stk c.frm c.cc.nd e1 (locB_ok e2) nam c.cc.tk tbl tsl) ?_
        intro pn xe tk po
        refine (hbody _ pn xe (c.tr hb tk po)).b pb h5 σ H ρ env M D rel ?_
        cases hr : exS G cl body cu env M with
        | nx e M1 => rw [hr] at p; exact p
        | rt d M1 => rw [hr] at p; exact p
        | bad => rw [hr] at p; exact p
        | exc j fs e1' M1 =>
          rw [hr] at p
          simp only at p
          by_cases hj : G.isc j = true
          · rw [if_pos hj] at p
            intro dd σ' H' ρ' s' rel' xr
            refine ⟨G.sub j k, (c.cc.xsb j k hj h4).2, fun hs a ha oe pn hz hf pins s I => ?_, fun hs => ?_⟩
            · rw [if_pos hs] at p
              have len : i < (σ'.set i (some (.ref a))).length := by
                rw [I.len]
                exact (List.getElem?_eq_some_iff.mp e1).1
              have len : i < σ'.length := by simpa using len
              refine (hsuite _ _ _ _ _ (c.held (fs := fs) (i := i) (a := a) hj hz hf)).b (b0 :: q) e3 _ H' ρ' (e1'.set i none) M1 _ ⟨rel'.st, rel'.en.hole i _, List.getElem?_set_self len, xr⟩ ?_ pins s I
              have p := p.step s'
              revert p
              show PostS CA X.K W H' ρ' (endTry (some i) (exS G cl suite (some (j, fs)) (e1'.set i none) M1)) D → _
              cases exS G cl suite (some (j, fs)) (e1'.set i none) M1 with
              | nx e2 M2 => exact fun p σ2 H2 ρ2 s2 r2 => p (σ2.set i none) H2 ρ2 s2 ⟨r2.st, r2.en.unset i, c.cc.sgc hb _ _⟩
              | rt d M2 => exact fun p => p
              | exc _ _ _ _ => exact fun p => p.elim
              | bad => exact fun p => p
            · rw [if_neg (by rw [hs]; decide)] at p
              exact p dd σ' H' ρ' s' rel' xr
          · rw [if_neg hj] at p
            exact p.elim
    | none =>
      simp only [Bool.and_eq_true] at h6
      obtain ⟨e1, e3⟩ := h6
      cases n with
      | some n => cases e1
      | none =>
        refine tm_ps (ps_try_only (ts := fun a cls d D σ H => ∀ (oe : Obj) (pn : List (Addr × Obj)), Zc cls d oe → (∃ vs, oe.data = .fields vs) → TMB (X.suite a ((a, oe) :: pn)) (b0 :: q) D σ H) c.stk c.frm nam c.cc.tk tbl tsl) ?_
        intro pn xe tk po
        refine (hbody _ pn xe (c.tr hb tk po)).b pb h5 σ H ρ env M D rel ?_
        cases hr : exS G cl body cu env M with
        | nx e M1 => rw [hr] at p; exact p
        | rt d M1 => rw [hr] at p; exact p
        | bad => rw [hr] at p; exact p
        | exc j fs e1' M1 =>
          rw [hr] at p
          simp only at p
          by_cases hj : G.isc j = true
          · rw [if_pos hj] at p
            intro dd σ' H' ρ' s' rel' xr
            refine ⟨G.sub j k, (c.cc.xsb j k hj h4).2, fun hs a ha oe pn hz hf pins s I => ?_, fun hs => ?_⟩
            · rw [if_pos hs] at p
              refine (hsuite _ _ _ _ _ (c.bare (i := X.N.length) (a := a))).b (b0 :: q) e3 _ H' ρ' e1' M1 _ rel' ?_ pins s I
              have p := p.step s'
              revert p
              show PostS CA X.K W H' ρ' (endTry none (exS G cl suite none e1' M1)) D → _
              cases exS G cl suite none e1' M1 with
              | nx e2 M2 => exact fun p => p
              | rt d M2 => exact fun p => p
              | exc _ _ _ _ => exact fun p => p.elim
              | bad => exact fun p => p
            · rw [if_neg (by rw [hs]; decide)] at p
              exact p dd σ' H' ρ' s' rel' xr
          · rw [if_neg hj] at p
            exact p.elim
  · cases h
end
/-- every statement -/
theorem stm_ok {G : Gl} {cl : Cl} : ∀ (x : S) (CA : Ca) (X : Cx) (W : WX) (B : Tb) (cu : Option (Nat × List (Str × D))), Sc G cl cu B CA X W → AllS CA X W (exS G cl x cu) (ms G X.N X.env.scope x B)
  | .nil, CA, X, W, B, cu, c => sl_nil
  | .cons x y, CA, X, W, B, cu, c => sl_cons (stm_ok x CA X W B cu c) (stm_ok y CA X W B cu c)
  | .asg _ _, CA, X, W, B, cu, c => sl_asg c
  | .ex _, CA, X, W, B, cu, c => sl_ex c
  | .ret _, CA, X, W, B, cu, c => sl_ret c
  | .retN, CA, X, W, B, cu, c => sl_retN
  | .pas, CA, X, W, B, cu, c => sl_pas
  | .ite _ x y, CA, X, W, B, cu, c => sl_ite c (stm_ok x CA X W B cu c) (stm_ok y CA X W B cu c)
  | .for_ _ _ _ x, CA, X, W, B, cu, c => sl_for c (stm_ok x CA X W B cu c)
  | .whl _ x, CA, X, W, B, cu, c => sl_whl c (stm_ok x CA X W B cu c)
  | .rai _ _, CA, X, W, B, cu, c => sl_rai c
  | .tri x _ _ y, CA, X, W, B, cu, c => sl_tri c (fun W' pn xe c' => stm_ok x CA (X.tr pn xe) W' B cu c') (fun cu' B' CA' X' W' c' => stm_ok y CA' X' W' B' cu' c')
end Dv
end

section
set_option Elab.async false
set_option autoImplicit false
set_option linter.all false
set_option maxRecDepth 100000
set_option maxHeartbeats 4000000
/-! DvP: defs. -/
namespace Dv
open PySem L2
/-! ### what a call leaves -/
section
variable {K : PySem.W.Frag} {H : Hp} {ρ ρ' : List Addr} {n : Nat} {f : Nat → Nat}
mutual
/-- renumbered, where each of its numbers goes -/
theorem RV.ren (hf : ∀ k a, k < n → ρ[k]? = some a → f k = k ∧ ρ'[k]? = some a) : ∀ (d : D) (v : V), (∀ k ∈ d.locs n, ∀ a, ρ[k]? = some a → ρ'[f k]? = some a) → RV K H ρ d v → RV K H ρ' (d.ren f) v
  | .non, v, _, h => by simp only [RV, D.ren] at h ⊢; exact h
  | .bl b, v, _, h => by simp only [RV, D.ren] at h ⊢; exact h
  | .int i, v, _, h => by simp only [RV, D.ren] at h ⊢; exact h
  | .str z, v, _, h => by simp only [RV, D.ren] at h ⊢; exact h
  | .loc k, v, l, h => by
    simp only [RV, D.ren] at h ⊢
    obtain ⟨a, e, rfl⟩ := h
    by_cases hk : k < n
    · obtain ⟨e1, e2⟩ := hf k a hk e
      exact ⟨a, by rw [e1]; exact e2, rfl⟩
    · exact ⟨a, l k (by simp [D.locs, hk]) a e, rfl⟩
  | .rol xs, v, _, h => by simp only [RV, D.ren] at h ⊢; exact h
  | .ktp xs, v, _, h => by simp only [RV, D.ren] at h ⊢; exact h
  | .tup ds, v, l, h => by
    simp only [RV, D.ren] at h ⊢
    obtain ⟨t, vs, rfl, e, r⟩ := h
    exact ⟨t, vs, rfl, e, RVs.ren hf ds vs (fun k hk => l k (by simpa [D.locs] using hk)) r⟩
theorem RVs.ren (hf : ∀ k a, k < n → ρ[k]? = some a → f k = k ∧ ρ'[k]? = some a) : ∀ (ds : List D) (vs : List V), (∀ k ∈ locsL n ds, ∀ a, ρ[k]? = some a → ρ'[f k]? = some a) → RVs K H ρ ds vs → RVs K H ρ' (renL f ds) vs
  | [], vs, _, h => by simp only [RVs, renL] at h ⊢; exact h
  | d :: ds, vs, l, h => by
    simp only [RVs, renL] at h ⊢
    obtain ⟨v, r, rfl, h1, h2⟩ := h
    exact ⟨v, r, rfl, RV.ren hf d v (fun k hk => l k (by simp [locsL, hk])) h1, RVs.ren hf ds r (fun k hk => l k (by simp [locsL, hk])) h2⟩
end
mutual
theorem RV.low (hp : ∀ k a, k < n → ρ[k]? = some a → ρ'[k]? = some a) : ∀ (d : D) (v : V), d.und n = true → RV K H ρ d v → RV K H ρ' d v
  | .non, v, _, h => by simp only [RV] at h ⊢; exact h
  | .bl b, v, _, h => by simp only [RV] at h ⊢; exact h
  | .int i, v, _, h => by simp only [RV] at h ⊢; exact h
  | .str z, v, _, h => by simp only [RV] at h ⊢; exact h
  | .loc k, v, u, h => by
    simp only [RV] at h ⊢
    obtain ⟨a, e, rfl⟩ := h
    exact ⟨a, hp k a (by simpa [D.und] using u) e, rfl⟩
  | .rol xs, v, _, h => by simp only [RV] at h ⊢; exact h
  | .ktp xs, v, _, h => by simp only [RV] at h ⊢; exact h
  | .tup ds, v, u, h => by
    simp only [RV] at h ⊢
    obtain ⟨t, vs, rfl, e, r⟩ := h
    exact ⟨t, vs, rfl, e, RVs.low hp ds vs (by simpa [D.und] using u) r⟩
theorem RVs.low (hp : ∀ k a, k < n → ρ[k]? = some a → ρ'[k]? = some a) : ∀ (ds : List D) (vs : List V), undL n ds = true → RVs K H ρ ds vs → RVs K H ρ' ds vs
  | [], vs, _, h => by simp only [RVs] at h ⊢; exact h
  | d :: ds, vs, u, h => by
    simp only [RVs] at h ⊢
    obtain ⟨v, r, rfl, h1, h2⟩ := h
    obtain ⟨u1, u2⟩ := Bool.and_eq_true_iff.mp (show (d.und n && undL n ds) = true from u)
    exact ⟨v, r, rfl, RV.low hp d v u1 h1, RVs.low hp ds r u2 h2⟩
end
mutual
/-- what stands names what stands -/
theorem RV.und (hl : ρ.length ≤ n) : ∀ (d : D) (v : V), RV K H ρ d v → d.und n = true
  | .non, v, _ => rfl
  | .bl b, v, _ => rfl
  | .int i, v, _ => rfl
  | .str z, v, _ => rfl
  | .loc k, v, h => by
    simp only [RV] at h
    obtain ⟨a, e, rfl⟩ := h
    simp only [D.und, decide_eq_true_eq]
    exact Nat.lt_of_lt_of_le (List.getElem?_eq_some_iff.mp e).1 hl
  | .rol xs, v, _ => rfl
  | .ktp xs, v, _ => rfl
  | .tup ds, v, h => by
    simp only [RV] at h
    obtain ⟨t, vs, rfl, e, r⟩ := h
    simp only [D.und]
    exact RVs.und hl ds vs r
theorem RVs.und (hl : ρ.length ≤ n) : ∀ (ds : List D) (vs : List V), RVs K H ρ ds vs → undL n ds = true
  | [], vs, _ => rfl
  | d :: ds, vs, h => by
    simp only [RVs] at h
    obtain ⟨v, r, rfl, h1, h2⟩ := h
    simp only [undL, RV.und hl d v h1, RVs.und hl ds r h2, Bool.and_self]
end
end
theorem undL_all {n : Nat} : ∀ {ds : List D}, undL n ds = ds.all (D.und n)
  | [] => rfl
  | d :: ds => by rw [undL, undL_all]; rfl
theorem Ob.und_eq (n : Nat) (o : Ob) : o.und n = undL n (match o with | .lst xs => xs | .dct kvs => kvs.map (·.2) | .dtt kvs => kvs.map (·.2) | .ins _ fs => fs.map (·.2)) := by
  cases o <;> simp [Ob.und, undL_all, List.all_map, Function.comp_def]
section
variable {CA : Nat → Addr} {K : PySem.W.Frag} {H : Hp} {ρ ρ' : List Addr} {n : Nat} {f : Nat → Nat}
theorem RO.low (hp : ∀ k a, k < n → ρ[k]? = some a → ρ'[k]? = some a) {o : Ob} {h : HO} (u : o.und n = true) (x : RO CA K H ρ o h) : RO CA K H ρ' o h := by
  rw [Ob.und_eq] at u
  cases o with
  | lst ds => obtain ⟨vs, e, r⟩ := x; exact ⟨vs, e, RVs.low hp _ _ u r⟩
  | dct kvs => obtain ⟨vs, e, e2, r⟩ := x; exact ⟨vs, e, e2, RVs.low hp _ _ u r⟩
  | dtt kvs => obtain ⟨vs, e, e2, r⟩ := x; exact ⟨vs, e, e2, RVs.low hp _ _ u r⟩
  | ins c fs => obtain ⟨dx, vs, e, e2, r⟩ := x; exact ⟨dx, vs, e, e2, RVs.low hp _ _ u r⟩
theorem RO.und (hl : ρ.length ≤ n) {o : Ob} {h : HO} (x : RO CA K H ρ o h) : o.und n = true := by
  rw [Ob.und_eq]
  cases o with
  | lst ds => obtain ⟨vs, e, r⟩ := x; exact RVs.und hl _ _ r
  | dct kvs => obtain ⟨vs, e, e2, r⟩ := x; exact RVs.und hl _ _ r
  | dtt kvs => obtain ⟨vs, e, e2, r⟩ := x; exact RVs.und hl _ _ r
  | ins c fs => obtain ⟨dx, vs, e, e2, r⟩ := x; exact RVs.und hl _ _ r
theorem renL_map : ∀ (ds : List D), renL f ds = ds.map (D.ren f)
  | [] => rfl
  | d :: ds => by rw [renL, renL_map]; rfl
theorem RO.ren (hf : ∀ k a, k < n → ρ[k]? = some a → f k = k ∧ ρ'[k]? = some a) {o : Ob} {h : HO} (l : ∀ k ∈ o.locs n, ∀ a, ρ[k]? = some a → ρ'[f k]? = some a) (x : RO CA K H ρ o h) : RO CA K H ρ' (o.ren f) h := by
  cases o with
  | lst ds => obtain ⟨vs, e, r⟩ := x; exact ⟨vs, e, RVs.ren hf _ _ l r⟩
  | dct kvs =>
    obtain ⟨vs, e, e2, r⟩ := x
    have q := RVs.ren hf _ _ l r
    refine ⟨vs, e, by rw [e2, List.map_map]; rfl, ?_⟩
    rw [renL_map, List.map_map] at q
    rw [List.map_map]
    exact q
  | dtt kvs =>
    obtain ⟨vs, e, e2, r⟩ := x
    have q := RVs.ren hf _ _ l r
    refine ⟨vs, e, by rw [e2, List.map_map]; rfl, ?_⟩
    rw [renL_map, List.map_map] at q
    rw [List.map_map]
    exact q
  | ins c fs =>
    obtain ⟨dx, vs, e, e2, r⟩ := x
    have q := RVs.ren hf _ _ l r
    refine ⟨dx, vs, e, by rw [e2, List.map_map]; rfl, ?_⟩
    rw [renL_map, List.map_map] at q
    rw [List.map_map]
    exact q
end
section
variable {CA : Nat → Addr} {K : PySem.W.Frag} {H H' : Hp} {ρ ρ' : List Addr} {M M1 : Store}
open Classical in
theorem old_und (R : RS CA K H ρ M) (o : oldOk M M1 = true) : M.length ≤ M1.length ∧ ∀ i o, i < M.length → M1[i]? = some o → o.und M.length = true := by
  unfold oldOk at o
  have o := of_decide_eq_true o
  refine ⟨o.1, fun i ob hi e => ?_⟩
  rcases o.2 i ob hi e with h | h
  · obtain ⟨a, u, _, _, x⟩ := R.at_ i ob h
    exact RO.und (Nat.le_of_eq R.len) x
  · exact h
theorem St8.cut (R : RS CA K H ρ M) (s : St8 H ρ H' ρ') (R1 : RS CA K H' ρ' M1) (o : oldOk M M1 = true) : ρ'.take M.length = ρ ∧ St8 H ρ H' ρ ∧ RS CA K H' ρ (M1.take M.length) := by
  obtain ⟨l, u⟩ := old_und R o
  obtain ⟨t, e⟩ := s.pre
  have e1 : ρ'.take M.length = ρ := by rw [← e, ← R.len, List.take_left]
  have hp : ∀ k a, k < M.length → ρ'[k]? = some a → ρ[k]? = some a := fun k a hk h => by
    rw [← e1, List.getElem?_take_of_lt hk]
    exact h
  refine ⟨e1, ⟨List.prefix_refl _, s.frm, fun a h => .inl h⟩, by simp [R.len, l], R.nd, fun i ob h => ?_⟩
  have hi : i < M.length := by
    have := (List.getElem?_eq_some_iff.mp h).1
    simp at this
    omega
  rw [List.getElem?_take_of_lt hi] at h
  obtain ⟨a, w, e2, e3, x⟩ := R1.at_ i ob h
  exact ⟨a, w, hp i a hi e2, e3, RO.low hp (u i ob hi h) x⟩
theorem nodup_fm {α β : Type} {g : α → Option β} : ∀ {L : List α}, L.Nodup → (∀ i j a, g i = some a → g j = some a → i = j) → (L.filterMap g).Nodup
  | [], _, _ => by simp
  | m :: L, h, inj => by
    obtain ⟨h1, h2⟩ := List.nodup_cons.mp h
    rw [List.filterMap_cons]
    split
    · exact nodup_fm h2 inj
    · rename_i b e
      refine List.nodup_cons.mpr ⟨fun hm => ?_, nodup_fm h2 inj⟩
      obtain ⟨j, hj, e2⟩ := List.mem_filterMap.mp hm
      exact h1 (inj _ _ _ e e2 ▸ hj)
theorem idx_get {R : List Nat} {k : Nat} (h : k ∈ R) : R[R.idxOf k]? = some k := by
  have := List.idxOf_lt_length_of_mem h
  rw [List.getElem?_eq_getElem this]
  simp
theorem fin_ok {d : D} {v : V} {Q : VK} {E : XK} (R : RS CA K H ρ M) (s : St8 H ρ H' ρ') (R1 : RS CA K H' ρ' M1) (hv : RV K H' ρ' d v) (p : PostC CA K H ρ (fin M d M1) Q E) : Q v H' := by
  unfold fin at p
  by_cases o : oldOk M M1 = true
  · rw [if_pos o] at p
    simp only at p
    generalize hR : grow M.length M1 (grow M.length M1 (d.locs M.length).eraseDups) = T at p
    by_cases k : (keepsR M.length M1 T && (d.locs M.length).all fun k => T.contains k) = true
    · rw [if_pos k] at p
      obtain ⟨l, u⟩ := old_und R o
      obtain ⟨k1, k2⟩ := Bool.and_eq_true_iff.mp k
      obtain ⟨k1, k3⟩ := Bool.and_eq_true_iff.mp k1
      have nd : T.Nodup := of_decide_eq_true k1
      obtain ⟨e1, s1, R2⟩ := St8.cut R s R1 o
      have hT : ∀ m ∈ T, M.length ≤ m ∧ ∃ ob, M1[m]? = some ob ∧ ∀ k ∈ ob.locs M.length, k ∈ T := fun m hm => by
        obtain ⟨q1, q2⟩ := Bool.and_eq_true_iff.mp (List.all_eq_true.mp k3 m hm)
        refine ⟨of_decide_eq_true q1, ?_⟩
        split at q2
        · rename_i ob e
          exact ⟨ob, e, fun k hk => by simpa using List.all_eq_true.mp q2 k hk⟩
        · cases q2
      have hA : ∀ m ∈ T, ∃ a, ρ'[m]? = some a := fun m hm => by
        obtain ⟨_, ob, e, _⟩ := hT m hm
        obtain ⟨a, _, e2, _⟩ := R1.at_ m ob e
        exact ⟨a, e2⟩
      generalize hn : M.length = n at *
      have mapT : ∀ {α : Type} (g : Nat → Option α) (L : List Nat), (∀ m ∈ L, ∃ a, g m = some a) → ∀ j : Nat, (L.filterMap g)[j]? = (L[j]?).bind g := by
        intro α g L
        induction L with
        | nil => intro _ j; simp
        | cons m L ih =>
          intro h j
          obtain ⟨a, ea⟩ := h m List.mem_cons_self
          rw [List.filterMap_cons_some ea]
          cases j with
          | zero => simp [ea]
          | succ j => simpa using ih (fun m hm => h m (List.mem_cons_of_mem _ hm)) j
      have lenT : ∀ {α : Type} (g : Nat → Option α) (L : List Nat), (∀ m ∈ L, ∃ a, g m = some a) → (L.filterMap g).length = L.length := by
        intro α g L
        induction L with
        | nil => intro _; rfl
        | cons m L ih =>
          intro h
          obtain ⟨a, ea⟩ := h m List.mem_cons_self
          rw [List.filterMap_cons_some ea, List.length_cons, List.length_cons, ih fun m hm => h m (List.mem_cons_of_mem _ hm)]
      have lρ : ρ.length = n := by rw [R.len]; exact hn
      have low : ∀ k a, k < n → ρ'[k]? = some a → (ρ ++ T.filterMap fun m => ρ'[m]?)[k]? = some a := fun k a hk h => by
        rw [List.getElem?_append_left (by omega), ← e1, List.getElem?_take_of_lt hk]
        exact h
      have high : ∀ k ∈ T, ∀ a, ρ'[k]? = some a → (ρ ++ T.filterMap fun m => ρ'[m]?)[renF n T k]? = some a := fun k hk a h => by
        unfold renF
        rw [if_neg (by have := (hT k hk).1; omega), List.getElem?_append_right (by omega), lρ, Nat.add_sub_cancel_left, mapT _ _ hA, idx_get hk]
        exact h
      have hf : ∀ k a, k < n → ρ'[k]? = some a → renF n T k = k ∧ (ρ ++ T.filterMap fun m => ρ'[m]?)[k]? = some a := fun k a hk h => ⟨by unfold renF; rw [if_pos hk], low k a hk h⟩
      have s2 : St8 H ρ H' (ρ ++ T.filterMap fun m => ρ'[m]?) := ⟨⟨_, rfl⟩, s.frm, fun a m => by
        rcases List.mem_append.mp m with m | m
        · exact .inl m
        · obtain ⟨j, _, e⟩ := List.mem_filterMap.mp m
          exact s.new a (List.mem_of_getElem? e)⟩
      have hM : ∀ m ∈ T, ∃ a, ((M1[m]?).map fun o => o.ren (renF n T)) = some a := fun m hm => by
        obtain ⟨_, ob, e, _⟩ := hT m hm
        exact ⟨_, by rw [e]; rfl⟩
      have R3 : RS CA K H' (ρ ++ T.filterMap fun m => ρ'[m]?) (M1.take n ++ T.filterMap fun m => (M1[m]?).map fun o => o.ren (renF n T)) := by
        refine ⟨?_, ?_, fun i ob h => ?_⟩
        · rw [List.length_append, List.length_append, lenT _ _ hA, lenT _ _ hM, lρ, List.length_take]
          omega
        · rw [List.nodup_append]
          refine ⟨R.nd, ?_, fun a ha b hb => ?_⟩
          · refine nodup_fm nd fun i j a h1 h2 => ?_
            have h1 : ρ'[i]? = some a := h1
            have h2 : ρ'[j]? = some a := h2
            obtain ⟨i1, i2⟩ := List.getElem?_eq_some_iff.mp h1
            obtain ⟨j1, j2⟩ := List.getElem?_eq_some_iff.mp h2
            exact (List.getElem_inj R1.nd).mp (i2.trans j2.symm)
          · rintro rfl
            obtain ⟨j, hj, e⟩ := List.mem_filterMap.mp hb
            obtain ⟨i, hi, ei⟩ := List.mem_iff_getElem.mp ha
            have h1 : ρ'[i]? = some a := prefix_get s.pre (by rw [List.getElem?_eq_getElem hi, ei])
            obtain ⟨i1, i2⟩ := List.getElem?_eq_some_iff.mp h1
            obtain ⟨j1, j2⟩ := List.getElem?_eq_some_iff.mp e
            have := (List.getElem_inj R1.nd).mp (i2.trans j2.symm)
            have := (hT j hj).1
            omega
        · by_cases hi : i < n
          · rw [List.getElem?_append_left (by rw [List.length_take]; omega), List.getElem?_take_of_lt hi] at h
            obtain ⟨a, w, e2, e3, x⟩ := R1.at_ i ob h
            exact ⟨a, w, low i a hi e2, e3, RO.low low (u i ob hi h) x⟩
          · have lt : (M1.take n).length = n := by rw [List.length_take]; omega
            rw [List.getElem?_append_right (by omega), lt, mapT _ _ hM] at h
            cases hm : T[i - n]? with
            | none => rw [hm] at h; cases h
            | some m =>
              rw [hm] at h
              have mT := List.mem_of_getElem? hm
              obtain ⟨_, o2, e, cl⟩ := hT m mT
              have h : ((M1[m]?).map fun o => o.ren (renF n T)) = some ob := h
              rw [e] at h
              cases h
              obtain ⟨a, w, e2, e3, x⟩ := R1.at_ m o2 e
              refine ⟨a, w, ?_, e3, RO.ren hf (fun k hk a h => high k (cl k hk) a h) x⟩
              rw [List.getElem?_append_right (by omega), lρ, mapT _ _ hA, hm]
              exact e2
      exact p v H' _ s2 R3 (RV.ren hf d v (fun k hk a h => high k (by simpa using List.all_eq_true.mp k2 k hk) a h) hv)
    · rw [if_neg k] at p
      exact p v H' ρ' s R1 hv
  · rw [if_neg o] at p
    exact p v H' ρ' s R1 hv
end
end Dv
end

section
set_option Elab.async false
set_option autoImplicit false
set_option linter.all false
set_option maxRecDepth 100000
set_option maxHeartbeats 4000000
/-! DvQ: every def keeps what the evaluator promises. -/
namespace Dv
open PySem L2
/-- a def's text -/
def DefF (K : PySem.W.Frag) (G : Gl) (B : Tb) (a : Addr) (d : Def) (fd : FuncData) (ps : List Str) : Prop := ∃ name qual params body scope N, FunD K name qual params body scope [] [] a fd ∧ FnScope N ps scope ∧ ps.length = d.np ∧ N.length = d.ns ∧
  (∀ (s : Shared) (us : List Value), us.length = ps.length → BindsTo s fd ⟨us, []⟩ (ps.zip us)) ∧ (ms G N scope d.body B).b body = true
theorem binds_of {K : PySem.W.Frag} {fd : FuncData} {ps : List Str} (h : ∀ (s : Shared) (us : List Value), us.length = ps.length → BindsTo s fd ⟨us, []⟩ (ps.zip us)) : Binds K fd ps [] := fun s us _ hl => by
  rw [List.append_nil] at hl ⊢
  exact h s us hl
/-- what is known of the module -/
structure Wd (P₀ : Program) (w : World) (K : PySem.W.Frag) (mg : Str → Option Value) (G : Gl) (P : Nat → Option Def) (B : Tb) (CA FA : Nat → Addr) : Prop where
  cm : B.cm = true
  bln : ∀ b, mg (biN b) = none
  tyn : ∀ t, mg (tyS t) = none
  rgn : mg "range" = none
  isn : mg "isinstance" = none
  con : ∀ k d, G.con k = some d → ∃ v u, mg (B.gn k) = some u ∧ RelV v u ∧ ∀ H ρ, RV K H ρ d v
  fns : ∀ f, B.isf f = true → mg (B.fn f) = some (.ref (FA f)) ∧ ∃ d, P f = some d
  mth : ∀ c m g, G.mid c m = some g → Cls K (CA c) ∧ Meth K (CA c) (G.mn m) (FA g) ∧ ∃ d, P g = some d
  mak : ∀ c g, G.ini c = some g → mg (B.cn c) = some (.ref (CA c)) ∧ Mk K (CA c) (FA g) ∧ ∃ d, P g = some d
  fld : ∀ c f, G.fok c f = true → Cls K (CA c) ∧ NoAttr K (CA c) f
  xcl : ∀ c, G.isc c = true → mg (B.cn c) = some (.ref (CA c)) ∧ ExcC K (CA c)
  xsb : ∀ k c, G.isc k = true → G.isc c = true → PySem.W.kitOne K (.ref (CA k)) (.ref (CA c)) = some (G.sub k c) ∧ PySem.W.exmOne K (.ref (CA k)) (.ref (CA c)) = some (G.sub k c)
  xfl : ∀ k f, G.xok k f = true → XfC K (CA k) ∧ PySem.W.findIn K (.ref (CA k)) f = some none
  xrw : ∀ c, G.xraw c = true → mg (B.cn c) = some (.ref (CA c)) ∧ PySem.W.keepIn K (.ref (CA c)) = true ∧ (PySem.W.subIn K (.ref (CA c)) (.type "BaseException") = some true ∧ PySem.W.typeIn K (.ref (CA c)) = some (.type "type")) ∧
    ∃ T newId initId bmB, ExcBaseFacts T newId initId bmB ∧ PySem.W.excIn K (CA c) bmB newId = true
  xmk : ∀ c fs, G.exi c = some fs → ∀ X : Cx, X.prog = P₀ → X.w = w → X.K = K → X.mg = mg → Room 2 X.A → XMk X (CA c) (B.cn c) fs
  defs : ∀ f d, P f = some d → ∃ fd ps, DefF K G B (FA f) d fd ps
def Ca.all (CA : Nat → Addr) : Ca := ⟨CA, fun _ _ => True, fun _ _ _ => trivial⟩
theorem RE.start {K : PySem.W.Frag} {H : Hp} {ρ : List Addr} {ds : List D} {vs : List V} {N : List Str} {n : Nat} (r : RVs K H ρ ds vs) (hn : N.length = n) : RE K H ρ (ds.map some ++ List.replicate (n - ds.length) none) (L2.start N vs) := by
  have l := RVs.length r
  refine ⟨by unfold L2.start; simp [l, hn], fun i d h => ?_⟩
  by_cases hi : i < ds.length
  · rw [List.getElem?_append_left (by simpa using hi), List.getElem?_map] at h
    cases q : ds[i]? with
    | none => rw [q] at h; cases h
    | some d' =>
      rw [q] at h
      cases h
      obtain ⟨v, e, rv⟩ := RVs.get r q
      refine ⟨v, ?_, rv⟩
      unfold L2.start
      rw [List.getElem?_append_left (by simpa [l] using hi), List.getElem?_map, e]
      rfl
  · rw [List.getElem?_append_right (by simpa using hi), List.getElem?_replicate] at h
    split at h <;> cases h
section
variable {P₀ : Program} {w : World} {K : PySem.W.Frag} {mg : Str → Option Value} {G : Gl} {P : Nat → Option Def} {B : Tb} {CA FA : Nat → Addr}
theorem callN_len {n f : Nat} {d : Def} {ds : List D} {M : Store} {H : Hp} {ρ : List Addr} {Q : VK} {E : XK} (e : P f = some d) (p : PostC CA K H ρ (callN G P (n + 1) f ds M) Q E) : ds.length = d.np ∧
    PostC CA K H ρ (match exS G (callN G P n) d.body none (ds.map some ++ List.replicate (d.ns - ds.length) none) M with
        | .nx _ M1 => fin M .non M1
        | .rt v M1 => fin M v M1
        | .exc c fs _ M1 => if oldOk M M1 = true ∧ (fs.all fun kv => kv.2.und 0) = true then .exc c fs (M1.take M.length) else .bad
        | .bad => .bad) Q E := by
  unfold callN at p
  rw [e] at p
  simp only at p
  by_cases h : ds.length = d.np
  · rw [if_pos h] at p
    exact ⟨h, p⟩
  · rw [if_neg h] at p
    exact p.elim
theorem def_ok (D : Wd P₀ w K mg G P B CA FA) (base : Heap) : ∀ (n f : Nat) (d : Def) (fd : FuncData) (ps : List Str), P f = some d → DefF K G B (FA f) d fd ps → FnOk P₀ w K mg base (L2.CX P₀ w) (2 * n + 1) (FA f) fd ps (spC CA K (callN G P n) f)
  | 0, f, d, fd, ps, e, df => by
    refine ⟨fun vs H Q E h => ?_, fun A outer s H args us vs Q E hr e0 hb r h => ?_⟩
    · obtain ⟨ds, M, ρ, _, _, p⟩ := h
      exact p.elim
    · obtain ⟨ds, M, ρ, _, _, p⟩ := h
      exact p.elim
  | n + 1, f, d, fd, ps, e, df => by
    obtain ⟨name, qual, params, body, scope, N, F, S, h1, h2, hb, hm⟩ := df
    refine F.ok (k := 2 * n + 2) S (fun vs H Q E h => ?_) fun cdv A outer s H vs Q E hr h => ?_
    · obtain ⟨ds, M, ρ, _, r, p⟩ := h
      rw [RVs.length r, (callN_len e p).1, h1]
    · obtain ⟨ds, M, ρ, R, r, p⟩ := h
      obtain ⟨hl, p⟩ := callN_len e p
      refine ⟨_, pss_tm _ body, ?_⟩
      have fni : ∀ g d', P g = some d' → FnI CA (cxOf (L2.CX P₀ w) P₀ w K mg base N qual scope (FA f) cdv A outer s H E) (callN G P n) g (FA g) := fun g d' e' => by
        obtain ⟨fd', ps', df'⟩ := D.defs g d' e'
        have F' := def_ok D base n g d' fd' ps' e' df'
        obtain ⟨_, _, _, _, _, _, _, _, _, _, b', _⟩ := df'
        exact ⟨fd', ps', 2 * n + 1, F', hr, binds_of b'⟩
      have sc : Sc G (callN G P n) none B (Ca.all CA) (cxOf (L2.CX P₀ w) P₀ w K mg base N qual scope (FA f) cdv A outer s H E) (fun cls dd _ H' => E cls dd H') := {
        cc := {
          nd := S.nd
          tk := takes_of rfl rfl rfl rfl
          un := by have := hr.un; show (A.deeper _).units + 200 < cLine; omega
          calm := fun _ => rfl
          kind := S.kind
          bln := D.bln
          tyn := D.tyn
          rgn := D.rgn
          isn := D.isn
          con := D.con
          fns := fun _ g hg => by
            obtain ⟨a1, d', a2⟩ := D.fns g hg
            obtain ⟨fd', ps', df'⟩ := D.defs g d' a2
            obtain ⟨_, _, _, _, _, _, F', _⟩ := df'
            exact ⟨FA g, a1, F'.kp, fni g d' a2⟩
          mth := fun _ c m g hg => by
            obtain ⟨a1, a2, d', a3⟩ := D.mth c m g hg
            exact ⟨FA g, a1, a2, fni g d' a3⟩
          mak := fun _ c g hg => by
            obtain ⟨a1, a2, d', a3⟩ := D.mak c g hg
            exact ⟨FA g, a1, a2, fni g d' a3⟩
          fld := D.fld
          sgc := fun _ _ _ => trivial
          cuc := fun _ => rfl
          xcl := D.xcl
          xsb := D.xsb
          xfl := D.xfl
          xc := fun k fs e => by cases e }
        own := fun _ => passes_of rfl
        fnc := fun _ _ => rfl
        stk := rfl
        frm := rfl
        xrw := fun c hc => by
          obtain ⟨a1, a2, a3, a4⟩ := D.xrw c hc
          exact ⟨a1, a2, raises_own a3.1 a3.2, a4⟩
        xmk := fun _ c fs hc => D.xmk c fs hc _ rfl rfl rfl rfl (hr.mono (by omega)) }
      refine (stm_ok d.body (Ca.all CA) _ _ B none sc).b body hm _ H ρ (ds.map some ++ List.replicate (d.ns - ds.length) none) M _ ⟨R, RE.start r h2, trivial⟩ ?_
      revert p
      cases exS G (callN G P n) d.body none (ds.map some ++ List.replicate (d.ns - ds.length) none) M with
      | nx e1 M1 => exact fun p σ' H' ρ' s1 r1 => fin_ok R s1 r1.st of_non p
      | rt v M1 => exact fun p v H' ρ' s1 R1 rv => fin_ok R s1 R1 rv p
      | exc c fs e1 M1 =>
        intro p dd σ' H' ρ' s1 r1 xr
        have p : PostC CA K H ρ (if oldOk M M1 = true ∧ (fs.all fun kv => kv.2.und 0) = true then .exc c fs (M1.take M.length) else .bad) Q E := p
        by_cases hc : oldOk M M1 = true ∧ (fs.all fun kv => kv.2.und 0) = true
        · rw [if_pos hc] at p
          obtain ⟨_, s2, R2⟩ := St8.cut R s1 r1.st hc.1
          exact p dd H' ρ s2 R2 xr
        · rw [if_neg hc] at p
          exact p.elim
      | bad => exact fun p => p
/-- the law's def, from the outside: no exception leaves it -/
def CXn : CXT := fun _ _ _ _ _ _ => False
theorem def_out (D : Wd P₀ w K mg G P B CA FA) (base : Heap) {n f : Nat} {d : Def} {fd : FuncData} {ps : List Str} (e : P f = some d) (df : DefF K G B (FA f) d fd ps) :
    FnOk P₀ w K mg base CXn (2 * n + 1) (FA f) fd ps (fun vs H Q _ => spC CA K (callN G P n) f vs H Q fun _ _ _ => False) := by
  have F := def_ok D base n f d fd ps e df
  refine ⟨fun vs H Q E h => F.len vs H Q _ h, fun A outer s H args us vs Q E hr e0 hb r h => ?_⟩
  refine codeAny_mono (F.run A outer s H args us vs Q _ hr e0 hb r h) fun r s' hq => ?_
  cases r with
  | error er =>
    obtain ⟨_, _, _, _, _, _, _, _, _, _, _, _, z⟩ := hq
    exact z.elim
  | ok fl => cases fl <;> exact hq
theorem script_ok {n f : Nat} {ns : List Int} {M : Store} (h : callN G P n f [.rol ns] [] = .ok (.bl true) M) {H : Hp} {a : Addr} (hO : Only H) (hS : SqL K H a (ns.map V.int)) : spC CA K (callN G P n) f [.ref a] H (fun v _ => v = .bl true) fun _ _ _ => False := by
  refine ⟨[.rol ns], [], [], ⟨rfl, List.nodup_nil, fun n o e => by simp at e⟩, RVs.cons ?_ RVs.nil, ?_⟩
  · simp only [RV]
    refine ⟨a, rfl, ?_⟩
    rcases hS with (hS | hS) | hS
    · rcases hO a with z | ⟨o, xs, z⟩
      · rw [hS] at z; cases z
      · rw [hS] at z; cases z
    · exact .inl hS
    · exact .inr hS
  · rw [h]
    exact fun v H' ρ' _ _ r => rv_bl r
end
end Dv
end

section
set_option Elab.async false
set_option autoImplicit false
set_option linter.all false
set_option maxRecDepth 100000
set_option maxHeartbeats 4000000
/-! DvX: exceptions of a class whose own __init__ keeps what it is given, over ValueError or Exception. -/
namespace Dv
open PySem L2 PySem.Spec PyProof.Rows PySem.W
section
open Builtin Builtin.ObjectAttr
variable {prog : Program} {w : World} {A : Around} {E : Value → Shared → Prop} {R : Result → Shared → Prop} {hp : Heap} {g : Array GenState} {d : Drawn} {t : Nat} {os : OsState}
/-- self.name = v, where there is no dict yet -/
theorem osaN {K : W.Frag} {name : Str} {tk : Tok} {v : Value} {x C : Addr} {fv : Array Value} {cd : ClassData} {bmB : List Value} (hpass : ∀ self, refuseLoop self "__setattr__" bmB = pure ()) (hobj : bmB.contains (.type "object") = true)
    (X : K.In hp) (hx : hp.get? x = some { cls := .ref C, data := .fields fv }) (hcd : W.clsIn K C = some cd) (hm : excTail bmB cd.mro = true) (hh : cd.hasDict = true) (ha : W.findIn K (.ref C) name = some none)
    (hq : ∀ h' tk' dx, (∀ b o, b ≠ x → hp.get? b = some o → h'.get? b = some o) → hp.objs.size ≤ dx → dx ≠ x → h'.get? x = some { cls := .ref C, dict := some dx, data := .fields fv } →
      h'.Ns1 dx (fun y => if y = name then some v else none) → R (.ok (.ret .none)) ⟨h', g, d, tk', os⟩) :
    codeAny (model prog w) A (.call (.builtin "object.__setattr__") ⟨[.ref x, .str name tk, v], []⟩) R ⟨hp, g, d, t, os⟩ := by
  have I : W.InstAt hp x { cls := .ref C, data := .fields fv } C none := ⟨hx, rfl, rfl, trivial⟩
  have SF := F.store_object
  have hob : cd.mro.contains (.type "object") = true := (excTail_contains "object" _ hm).trans hobj
  have ne : cd.mro.isEmpty = false := by
    cases q : cd.mro with
    | nil => rw [q] at hob; cases hob
    | cons _ _ => rfl
  have hxs : x ≠ hp.objs.size := Nat.ne_of_lt (Heap.lt_size hx)
  have sub : W.Looks (model prog w) hp (isInstance (.ref x) (.type "object")) true := I.type.andThen (W.looks_mroIn X (by unfold W.mroIn; rw [hcd, Option.bind_some, if_neg (by rw [ne]; decide), hob]))
  refine codeAny_call_builtin SF.slot.plain SF.entry (@W.check_slot (model prog w) _ _ ⟨hp, g, d, t, os⟩ "object.__setattr__" "object" "__setattr__" (.ref x) [.str name tk, v] [] _ SF.kind SF.split sub (SF.args (.ref x) (.str name tk) v) ?_)
  have hmr : W.Looks (model prog w) hp (mroOf (.ref C)) cd.mro := (W.looks_clsIn X hcd).andThen .now
  have L3 : W.Looks (model prog w) hp (storeTaker? none) none := .now
  have hcls : W.Looks (model prog w) hp (classData C) cd := W.looks_clsIn X hcd
  rw [W.osa_eq, refuse_eq]
  refine wpAny_bind (wpAny_bind (I.type.at (wpAny_bind (hmr.at ?_))))
  rw [excTail_pass _ (hpass _) _ hm]
  refine wpAny_pure (wpAny_bind (I.type.at (wpAny_bind ((W.looks_findIn X ha).at (wpAny_bind (L3.at ?_))))))
  show wpAny _ _ (storeInOwnDict (.ref x) (.ref C) (.str name tk) name v false) _ _ _
  obtain ⟨nm, bs, mro, ns, qn, hd, sn, sb, ab, col, del⟩ := cd
  dsimp only at hh
  subst hh
  unfold storeInOwnDict ownDictForStores
  repeat (first | with_reducible refine PySem.HandSPX.store_in_new ?_ ?_ | with_reducible refine wpAny_loadPart_at hx ?_ | with_reducible refine hcls.at ?_ | wp_step)
  · exact ⟨_, #[], _, (Heap.get?_update_ne _ _ _ _ hxs.symm).trans (Heap.get?_push_at rfl rfl), rfl, fun e he => absurd he (by simp), fun _ => rfl⟩
  · intro h' tk' hn' hs
    have hx₁ : (hp.push { cls := .type "dict", data := .dict #[] }).get? x = some { cls := .ref C, data := .fields fv } := Heap.get?_push_of_some _ hx
    refine hq h' tk' hp.objs.size (fun b o hb ho => ?_) (Nat.le_refl _) hxs.symm ?_ hn'
    · exact (hs.2 b (Nat.ne_of_lt (Heap.lt_size ho))).trans ((Heap.get?_update_ne _ _ _ _ hb).trans (Heap.get?_push_of_some _ ho))
    · exact (hs.2 x hxs).trans (Heap.get?_update_self _ hx₁ rfl)
/-- self.name = v, a further one -/
theorem osaO {K : W.Frag} {name : Str} {tk : Tok} {v : Value} {x C dx : Addr} {fv : Array Value} {cd : ClassData} {m0 : Str → Option Value} {nl : List Str} {bmB : List Value} (hpass : ∀ self, refuseLoop self "__setattr__" bmB = pure ()) (hobj : bmB.contains (.type "object") = true)
    (X : K.In hp) (hx : hp.get? x = some { cls := .ref C, dict := some dx, data := .fields fv }) (hns : hp.Ns1 dx m0) (hw : Within m0 nl) (hz : nl.length ≤ 1000) (hcd : W.clsIn K C = some cd) (hm : excTail bmB cd.mro = true) (hh : cd.hasDict = true)
    (ha : W.findIn K (.ref C) name = some none)
    (hq : ∀ h' tk', (∀ b o, b ≠ dx → hp.get? b = some o → h'.get? b = some o) → h'.Ns1 dx (fun y => if y = name then some v else m0 y) → R (.ok (.ret .none)) ⟨h', g, d, tk', os⟩) :
    codeAny (model prog w) A (.call (.builtin "object.__setattr__") ⟨[.ref x, .str name tk, v], []⟩) R ⟨hp, g, d, t, os⟩ := by
  obtain ⟨oD, esD, epD, hoD, hdD, _⟩ := hns.count hw
  have I : W.InstAt hp x { cls := .ref C, dict := some dx, data := .fields fv } C (some oD) := ⟨hx, rfl, rfl, hoD⟩
  have SF := F.store_object
  have hob : cd.mro.contains (.type "object") = true := (excTail_contains "object" _ hm).trans hobj
  have ne : cd.mro.isEmpty = false := by
    cases q : cd.mro with
    | nil => rw [q] at hob; cases hob
    | cons _ _ => rfl
  have sub : W.Looks (model prog w) hp (isInstance (.ref x) (.type "object")) true := I.type.andThen (W.looks_mroIn X (by unfold W.mroIn; rw [hcd, Option.bind_some, if_neg (by rw [ne]; decide), hob]))
  refine codeAny_call_builtin SF.slot.plain SF.entry (@W.check_slot (model prog w) _ _ ⟨hp, g, d, t, os⟩ "object.__setattr__" "object" "__setattr__" (.ref x) [.str name tk, v] [] _ SF.kind SF.split sub (SF.args (.ref x) (.str name tk) v) ?_)
  have hmr : W.Looks (model prog w) hp (mroOf (.ref C)) cd.mro := (W.looks_clsIn X hcd).andThen .now
  have L3 : W.Looks (model prog w) hp (storeTaker? none) none := .now
  have hcls : W.Looks (model prog w) hp (classData C) cd := W.looks_clsIn X hcd
  rw [W.osa_eq, refuse_eq]
  refine wpAny_bind (wpAny_bind (I.type.at (wpAny_bind (hmr.at ?_))))
  rw [excTail_pass _ (hpass _) _ hm]
  refine wpAny_pure (wpAny_bind (I.type.at (wpAny_bind ((W.looks_findIn X ha).at (wpAny_bind (L3.at ?_))))))
  show wpAny _ _ (storeInOwnDict (.ref x) (.ref C) (.str name tk) name v false) _ _ _
  obtain ⟨nm, bs, mro, ns, qn, hd, sn, sb, ab, col, del⟩ := cd
  dsimp only at hh
  subst hh
  unfold storeInOwnDict ownDictForStores
  repeat (first | with_reducible refine PySem.OEX.store_in_old hns hw hz ?_ | with_reducible refine wpAny_loadPart_at hx ?_ | with_reducible refine hcls.at ?_ | wp_step)
  intro h' tk' hn' hs
  exact hq h' tk' (fun b o hb ho => (hs.2 b hb).trans ho) hn'
end
/-! ### such a class -/
structure OexT (K : PySem.W.Frag) (C : Addr) (B newId initId : String) (bmB : List Value) : Prop where
  F : ExcBaseFacts B newId initId bmB
  pass : ∀ self, refuseLoop self "__setattr__" bmB = pure ()
  hob : bmB.contains (.type "object") = true
  cls : ∃ nm q N bs bm sn sub ab col dd k0 k1 k2 k3 k5, K.lookup C = some (excClassObj nm q C N bs bm true sn sub ab col dd k0 k1 k2 k3 k5 newId) ∧ excTail bmB bm = true
  sa : PySem.W.findIn K (.ref C) "__setattr__" = some (some (.builtin "object.__setattr__"))
  exC : PySem.W.subIn K (.ref C) (.type "BaseException") = some true
  tyC : PySem.W.typeIn K (.ref C) = some (.type "type")
  kC : PySem.W.keepIn K (.ref C) = true
section
variable {X : Cx} {pins : List (Addr × Obj)} {σ : L2.St} {H : Hp} {s : Shared} {a C dx : Addr} {f : Str} {y : V} {u : Value} {fs : List (Str × V)} {Q : Unit → Shared → Prop} {E : Value → Shared → Prop} {A : Around} {B newId initId : String} {bmB : List Value}
theorem ostN (T : OexT X.K C B newId initId bmB) (I : Inv X pins σ H s) (e : H a = some (exo a C none)) (hno : PySem.W.findIn X.K (.ref C) f = some none) (ry : RelV y u)
    (h : ∀ dx s', H dx = none → dx ≠ a → Inv X pins σ (upd (upd H dx (exd dx [(f, y)])) a (exo a C (some dx))) s' → Q () s') : wpAny (model X.prog X.w) A (setAttr (.ref a) f u) Q E s := by
  obtain ⟨nm, q, N, bs, bm, sn, sub, ab, col, dd, k0, k1, k2, k3, k5, hC, hbm⟩ := T.cls
  have hcl : PySem.W.clsIn X.K C = some { name := nm, bases := bs, mro := .ref C :: bm, ns := N, qualname := q, hasDict := true, slotNames := sn, subclasses := sub, abstract := ab, collection := col, hasDel := false } := by unfold PySem.W.clsIn; rw [hC] <;> rfl
  obtain ⟨t1, ho⟩ := exo_at I.hok e
  obtain ⟨hp, g, d, t, os⟩ := s
  refine PySem.W.set_plain I.kIn (ox := { cls := .ref C, dict := none, data := .fields #[.ref t1, .none, .none, .none, .bool false, .none] }) (od := none) ⟨ho, rfl, rfl, trivial⟩ T.sa ?_
  refine osaN T.pass T.hob I.kIn ho hcl (show excTail bmB (.ref C :: bm) = true from hbm) rfl hno (fun h' tk' dx k dn dne hx hn => ?_)
  have hnd : H dx = none := I.hok.fresh dn
  have nd : ∀ {b : Addr} {o : Obj}, hp.get? b = some o → b ≠ dx := fun {b o} q => Nat.ne_of_lt (Nat.lt_of_lt_of_le (Heap.lt_size q) dn)
  have na : ∀ {b : Addr}, H b = none → b ≠ a := fun {b} n z => by
    rw [z, e] at n
    cases n
  have Un1 : Un X.fs [] H (upd (upd H dx (exd dx [(f, y)])) a (exo a C (some dx))) hp h' := {
    keep := fun b o q n _ _ => k b o (na n) q
    slot := fun b o q n _ _ => ⟨o.slots, k b o (na n) q⟩
    free := fun b o q n _ => by rw [upd_ne (na n), upd_ne (nd q)]; exact n
    there := fun b o q _ => by
      by_cases hb : b = a
      · exact ⟨_, by rw [hb]; exact hx⟩
      · exact ⟨o, k b o hb q⟩
    tups := fun b xs q => by rw [upd_ne (at_ne e q exo_tup), upd_ne (ne_of_none q hnd)]; exact q
    frzs := fun b o v q => by rw [upd_ne (at_ne e q exo_frz), upd_ne (ne_of_none q hnd)]; exact q
    tbls := fun b ps q => ⟨#[], by rw [upd_ne (at_ne e q exo_tbl), upd_ne (ne_of_none q hnd), q]; simp⟩ }
  refine h dx _ hnd dne (I.un (t' := tk') Un1 fun b o q => ?_)
  by_cases hb : b = a
  · subst hb
    rw [upd_same] at q
    cases q
    exact exo_ok hx
  · rw [upd_ne hb] at q
    by_cases hd : b = dx
    · subst hd
      rw [upd_same] at q
      cases q
      exact exd_ok hn (relO_put (fs := []) ry fun g => True.intro)
    · rw [upd_ne hd] at q
      exact (I.hok b o q).stay (fun c v hc z => k c v (by
          rcases hc with hc | hc
          · rw [hc]
            exact hb
          · exact at_ne e hc exo_own) z)
        (fun c hc => by rw [upd_ne (at_ne e hc exo_own), upd_ne (ne_of_none hc hnd)]; exact hc) (fun c xs hc => by rw [upd_ne (at_ne e hc exo_tup), upd_ne (ne_of_none hc hnd)]; exact hc)
theorem ostO (T : OexT X.K C B newId initId bmB) (I : Inv X pins σ H s) (e : H a = some (exo a C (some dx))) (ed : H dx = some (exd dx fs)) (hl : fs.length ≤ 900) (hno : PySem.W.findIn X.K (.ref C) f = some none) (ry : RelV y u)
    (h : ∀ s', Inv X pins σ (upd H dx (exd dx ((f, y) :: fs))) s' → Q () s') : wpAny (model X.prog X.w) A (setAttr (.ref a) f u) Q E s := by
  obtain ⟨nm, q, N, bs, bm, sn, sub, ab, col, dd, k0, k1, k2, k3, k5, hC, hbm⟩ := T.cls
  have hcl : PySem.W.clsIn X.K C = some { name := nm, bases := bs, mro := .ref C :: bm, ns := N, qualname := q, hasDict := true, slotNames := sn, subclasses := sub, abstract := ab, collection := col, hasDel := false } := by unfold PySem.W.clsIn; rw [hC] <;> rfl
  obtain ⟨t1, ho⟩ := exo_at I.hok e
  obtain ⟨mA, hns, rel⟩ := exd_at I.hok ed
  have hw := within_of rel
  obtain ⟨hp, g, d, t, os⟩ := s
  obtain ⟨oD, _, _, hoD, _, _⟩ := hns.count hw
  refine PySem.W.set_plain I.kIn (ox := { cls := .ref C, dict := some dx, data := .fields #[.ref t1, .none, .none, .none, .bool false, .none] }) (od := some oD) ⟨ho, rfl, rfl, hoD⟩ T.sa ?_
  refine osaO T.pass T.hob I.kIn ho hns hw (by rw [List.length_map]; omega) hcl (show excTail bmB (.ref C :: bm) = true from hbm) rfl hno (fun h' tk' k hn => ?_)
  have hd : ∃ o, h'.get? dx = some o := by
    obtain ⟨o, _, _, e', _⟩ := hn
    exact ⟨o, e'⟩
  exact h _ (I.write (t' := tk') (x := dx) (e := dx) (o := exd dx ((f, y) :: fs)) (by rw [ed]; exact True.intro) (.inl rfl) k hd (exd_ok hn (relO_put ry rel)))
end
/-- self.f = e -/
def tOstT (K : PySem.W.Frag) (B newId initId : String) (bmB : List Value) (f : Str) (to te : TE) : TS := fun D σ H => te σ H fun y H1 => to σ H1 fun x H2 => ∃ a C : Addr, x = .ref a ∧ OexT K C B newId initId bmB ∧ PySem.W.findIn K (.ref C) f = some none ∧
  ((H2 a = some (exo a C none) ∧ ∀ dx, H2 dx = none → dx ≠ a → D.nx σ (upd (upd H2 dx (exd dx [(f, y)])) a (exo a C (some dx)))) ∨
    ∃ (dx : Addr) (fs : List (Str × V)), H2 a = some (exo a C (some dx)) ∧ H2 dx = some (exd dx fs) ∧ fs.length ≤ 900 ∧ D.nx σ (upd H2 dx (exd dx ((f, y) :: fs))))
section
variable {X : Cx} {o e : Expr} {es : List Expr} {to te : TE} {ta : TA} {f : Str} {p p' p1 p2 pos : Pos} {B newId initId : String} {bmB : List Value}
theorem ps_ostT (ho : PE X o to) (he : PE X e te) (hs : swapsWith e (some (.Attribute o f p')) pos.line X.env = pure false := by rfl) : PS X (.Assign [.Attribute o f p'] e pos) (tOstT X.K B newId initId bmB f to te) := by
  refine ⟨fun pins s σ H D I h => ?_⟩
  refine plainObj_wpAny_Assign_Attribute (thn (he.run pins s σ H _ I h) fun v s1 ⟨y, H1, I1, r1, q1⟩ => thn (ho.run pins s1 σ H1 _ I1 q1) fun u s2 ⟨x, H2, I2, r2, a, C, ex, T, hno, q⟩ => ?_) hs
  subst ex
  obtain rfl : u = Value.ref a := r2
  rcases q with ⟨ea, q⟩ | ⟨dx, fs, ea, ed, hl, q⟩
  · exact ostN T I2 ea hno r1 fun dx s' n ne J => ⟨σ, _, J, q dx n ne⟩
  · exact ostO T I2 ea ed hl hno r1 fun s' J => ⟨σ, _, J, q⟩
theorem pmk_oexT {CX : CXT} {x : Str} {C fI : Addr} {k : Nat} {fd : FuncData} {ps : List Str} {sp : Sp} {ds : List Value} {dvs : List V} (T : OexT X.K C B newId initId bmB) (iC : PySem.W.findIn X.K (.ref C) "__init__" = some (some (.ref fI))) (tI : PySem.W.typeIn X.K (.ref fI) = some (.type "function"))
    (F1 : FnOk X.prog X.w X.K X.mg X.base CX k fI fd ps sp) (hr : Room (k + 1) X.A) (hb : Binds X.K fd ps ds) (hd : Vals dvs ds) (hx : Passes CX X (fun _ _ _ => False)) (hg : L2.Gl X x) (hm : X.mg x = some (.ref C)) (ha : PA X (e :: es) ta)
    (hdb : (x == ("__debug__" : Str)) = false := by decide) (he : starEach (e :: es) X.env = (false, eval e X.env) :: starEach es X.env := by rfl) (hpl : (backTo pos (starEach es X.env)).any (·.1) = false := by rfl) :
    PMk X (.Call (.Name x p) (e :: es) [] pos) (tMkO C sp dvs ta) := by
  intro pins s σ H Q I h
  obtain ⟨nm, q, N, bs, bm, sn, sub, ab, col, dd, k0, k1, k2, k3, k5, hC, hbm⟩ := T.cls
  refine wpAny_Call_Name_kw (ld_glob I hg hm ?_ hdb)
  refine PySem.W.callWith_K (h₀ := X.base) I.ok.mod.kin T.kC (thn (ha.run pos pins s σ H _ I h) fun us s1 ⟨vs, H1, I1, r1, hz, q1⟩ => ⟨I1.kIn, ?_⟩) he hpl
  show wpAny _ _ (call (.ref C) us) _ _ _
  obtain ⟨hp, g, dr, tk, os⟩ := s1
  have hsz : hp.objs.size ≤ hp.objs.size + 1 := Nat.le_succ _
  have hn : H1 (hp.objs.size + 1) = none := I1.hok.fresh hsz
  have hq := q1 (hp.objs.size + 1) hn
  have kk : ∀ b o, hp.get? b = some o → ((hp.push (PySem.W.kdv_tup us)).push (PySem.HandSPX.excO C hp.objs.size)).get? b = some o := fun b o e => Heap.get?_push_of_some _ (Heap.get?_push_of_some _ e)
  have hget : ((hp.push (PySem.W.kdv_tup us)).push (PySem.HandSPX.excO C hp.objs.size)).get? (hp.objs.size + 1) = some (PySem.HandSPX.excO C hp.objs.size) := by heap_get
  have I2 : Inv X pins σ (upd H1 (hp.objs.size + 1) (exo (hp.objs.size + 1) C none)) ⟨(hp.push (PySem.W.kdv_tup us)).push (PySem.HandSPX.excO C hp.objs.size), g, dr, tk, os⟩ :=
    I1.laid (t' := tk) (a := hp.objs.size + 1) (o := exo (hp.objs.size + 1) C none) (h' := (hp.push (PySem.W.kdv_tup us)).push (PySem.HandSPX.excO C hp.objs.size)) kk hsz (exo_ok hget)
  have r2 : Vals (V.ref (hp.objs.size + 1) :: (vs ++ dvs)) (Value.ref (hp.objs.size + 1) :: (us ++ ds)) := .cons rfl (r1.append hd)
  have hl : (Value.ref (hp.objs.size + 1) :: us ++ ds).length = ps.length := by
    have e := r2.length
    rw [F1.len _ _ _ _ hq] at e
    exact e.symm
  have hus : us.length ≤ sizeLine := by
    rw [← Paired.length r1, sizeLine_eq]
    omega
  refine wpAny_call (PySem.HandSPX.call_own T.F (fun Y => excTail_contains Y bm hbm) (I1.kIn _ _ hC) (PySem.W.looks_findIn I1.kIn iC) (fun self => PySem.W.bind_fn I1.kIn self tI) hus
    (codeAny_mono (F1.run _ X.stack _ _ ⟨Value.ref (hp.objs.size + 1) :: us, []⟩ (Value.ref (hp.objs.size + 1) :: (us ++ ds)) _ _ (fun _ _ _ => False) (hr.make C us []) (I2.env0.make C us []) (hb _ (Value.ref (hp.objs.size + 1) :: us) I2.kIn hl) r2 hq) fun r s' hq' => ?_))
  cases r with
  | error er => exact hx pins σ _ _ er s' I2 hq'
  | ok fl =>
    cases fl with
    | ret u =>
      obtain ⟨v, H2, os2, bare2, un2, hok2, rv, ev, d, fs, ea, ed, hd1, q2⟩ := hq'
      subst ev
      obtain ⟨h2, g2, d2, t2, os'⟩ := s'
      exact ⟨rv, mk_end (raises_own T.exC T.tyC) I1 hsz kk un2 hok2 os2 bare2 ea ed hd1 q2⟩
    | next => exact False.elim hq'
    | brk => exact False.elim hq'
    | cont => exact False.elim hq'
end
/-! ### its __init__: self.f = f, .. -/
def iniB (N : List Str) (sc : Scope) (y : Str) : Nat → List Str → List Stmt → Bool
  | _, [], [] => true
  | i, f :: fs, .Assign [.Attribute (.Name y' _) g _] (.Name x _) _ :: r => decide (y' = y) && (decide (N[i]? = some x) && (visB sc x && (dbgB x && (decide (g = f) && iniB N sc y (i + 1) fs r))))
  | _, _, _ => false
def iniAll (N ps : List Str) (sc : Scope) (fs : List Str) (body : List Stmt) : Bool := match N, fs with
  | y :: _, _ :: _ => decide (ps.length = fs.length + 1) && (decide (fs.length ≤ 900) && (visB sc y && (dbgB y && iniB N sc y 1 fs body)))
  | _, _ => false
theorem upd_upd {H : Hp} {a : Addr} {x y : HO} : upd (upd H a x) a y = upd H a y := by
  funext b
  by_cases h : b = a
  · rw [h, upd_same, upd_same]
  · rw [upd_ne h, upd_ne h, upd_ne h]
theorem upd_self {H : Hp} {a : Addr} {x : HO} (h : H a = some x) : upd H a x = H := by
  funext b
  by_cases e : b = a
  · rw [e, upd_same, h]
  · rw [upd_ne e]
section
variable {X : Cx} {B newId initId : String} {bmB : List Value} {C a : Addr} {y : Str}
theorem ini_old (T : OexT X.K C B newId initId bmB) (h0 : X.N[0]? = some y) (hv : visB X.env.scope y = true) (hd : dbgB y = true) {d : Addr} : ∀ (fs : List Str) (r : List Stmt) (i : Nat) (ws : List V) (done : List (Str × V)) (σ : L2.St) (H : Hp) (D : Ends),
    iniB X.N X.env.scope y i fs r = true → ws.length = fs.length → done.length + fs.length ≤ 900 → (∀ f ∈ fs, PySem.W.findIn X.K (.ref C) f = some none) → σ[0]? = some (some (.ref a)) → (∀ j v, ws[j]? = some v → σ[i + j]? = some (some v)) →
    H a = some (exo a C (some d)) → H d = some (exd d done) → d ≠ a → D.nx σ (upd H d (exd d ((fs.zip ws).reverse ++ done))) → TMB X r D σ H := by
  intro fs
  induction fs with
  | nil =>
    intro r i ws done σ H D hb hl _ _ _ _ ha hd' _ q
    cases r with
    | cons st r => cases hb
    | nil =>
      refine tm_pss pss_nil ?_
      have e : upd H d (exd d done) = H := upd_self hd'
      have q : D.nx σ (upd H d (exd d done)) := q
      rw [e] at q
      exact q
  | cons f fs ih =>
    intro r i ws done σ H D hb hl hn hf hs hw ha hd' ne q
    cases r with
    | nil => cases hb
    | cons st r =>
      unfold iniB at hb
      split at hb
      · rename_i e1 e2; cases e2
      · rename_i i _ _ _ f0 fs0 y' yp g gp x xp ap r0 e1 e2
        obtain ⟨rfl, rfl⟩ := List.cons.inj e1
        obtain ⟨rfl, rfl⟩ := List.cons.inj e2
        simp only [Bool.and_eq_true, decide_eq_true_eq] at hb
        obtain ⟨rfl, b2, b3, b4, rfl, b6⟩ := hb
        cases ws with
        | nil => simp at hl
        | cons v ws =>
          obtain ⟨k1, k2, _⟩ := dbgB_ok b4
          obtain ⟨m1, m2, _⟩ := dbgB_ok hd
          refine tm_pss (pss_cons (ps_ostT (B := B) (newId := newId) (initId := initId) (bmB := bmB) (pe_var h0 (visB_ok hv) m1 m2) (pe_var b2 (visB_ok b3) k1 k2)) (pss_tm X r)) ?_
          refine ⟨v, hw 0 v rfl, .ref a, hs, a, C, rfl, T, hf g List.mem_cons_self, .inr ⟨d, done, ha, hd', by simp only [List.length_cons] at hn; omega, ?_⟩⟩
          refine ih r (i + 1) ws ((g, v) :: done) σ _ D b6 (by simpa using hl) (by simp only [List.length_cons] at hn ⊢; omega) (fun f h => hf f (List.mem_cons_of_mem _ h)) hs (fun j u e => ?_) (by rw [upd_ne (Ne.symm ne)]; exact ha) upd_same ne ?_
          · have := hw (j + 1) u (by simpa using e)
            rw [show i + 1 + j = i + (j + 1) by omega]
            exact this
          · rw [upd_upd]
            rw [List.zip_cons_cons, List.reverse_cons, List.append_assoc] at q
            exact q
      · cases hb
theorem ini_ok (T : OexT X.K C B newId initId bmB) {ps fs : List Str} {body : List Stmt} (hb : iniAll X.N ps X.env.scope fs body = true) (hf : ∀ f ∈ fs, PySem.W.findIn X.K (.ref C) f = some none) {ws : List V} (hl : ws.length = fs.length) {σ : L2.St} (hs : σ[0]? = some (some (.ref a)))
    (hw : ∀ j v, ws[j]? = some v → σ[1 + j]? = some (some v)) {H : Hp} {D : Ends} (ha : H a = some (exo a C none)) (q : ∀ d, H d = none → d ≠ a → D.nx σ (upd (upd H d (exd d (fs.zip ws).reverse)) a (exo a C (some d)))) : TMB X body D σ H := by
  unfold iniAll at hb
  split at hb
  · rename_i N y N' f fs hN
    simp only [Bool.and_eq_true, decide_eq_true_eq] at hb
    obtain ⟨_, b1, b2, b3, b4⟩ := hb
    have h0 : X.N[0]? = some y := by rw [hN]; rfl
    cases body with
    | nil => cases b4
    | cons st r =>
      unfold iniB at b4
      split at b4
      · rename_i e1 e2; cases e2
      · rename_i f0 fs0 y' yp g gp x xp ap r0 e1 e2
        obtain ⟨rfl, rfl⟩ := List.cons.inj e1
        obtain ⟨rfl, rfl⟩ := List.cons.inj e2
        simp only [Bool.and_eq_true, decide_eq_true_eq] at b4
        obtain ⟨rfl, c2, c3, c4, rfl, c6⟩ := b4
        cases ws with
        | nil => simp at hl
        | cons v ws =>
          obtain ⟨k1, k2, _⟩ := dbgB_ok c4
          obtain ⟨m1, m2, _⟩ := dbgB_ok b3
          refine tm_pss (pss_cons (ps_ostT (B := B) (newId := newId) (initId := initId) (bmB := bmB) (pe_var h0 (visB_ok b2) m1 m2) (pe_var c2 (visB_ok c3) k1 k2)) (pss_tm X r)) ?_
          refine ⟨v, hw 0 v rfl, .ref a, hs, a, C, rfl, T, hf g List.mem_cons_self, .inl ⟨ha, fun d hd ne => ?_⟩⟩
          refine ini_old T h0 b2 b3 (d := d) fs r 2 ws [(g, v)] σ _ D c6 (by simpa using hl) (by simp only [List.length_cons, List.length_nil] at b1 ⊢; omega) (fun f h => hf f (List.mem_cons_of_mem _ h)) hs (fun j u e => ?_) upd_same (by rw [upd_ne ne]; exact upd_same) ne ?_
          · have := hw (j + 1) u (by simpa using e)
            rw [show 2 + j = 1 + (j + 1) by omega]
            exact this
          · have q := q d hd ne
            rw [List.zip_cons_cons, List.reverse_cons] at q
            have e : upd (upd (upd H d (exd d [(g, v)])) a (exo a C (some d))) d (exd d ((fs.zip ws).reverse ++ [(g, v)])) = upd (upd H d (exd d ((fs.zip ws).reverse ++ [(g, v)]))) a (exo a C (some d)) := by
              funext b
              by_cases hb1 : b = d
              · subst hb1
                rw [upd_same, upd_ne ne, upd_same]
              · rw [upd_ne hb1]
                by_cases hb2 : b = a
                · subst hb2
                  rw [upd_same, upd_same]
                · rw [upd_ne hb2, upd_ne hb2, upd_ne hb1, upd_ne hb1]
            rw [e]
            exact q
      · cases b4
  · cases hb
end
/-- what C's own __init__ keeps -/
def spI (C : Addr) (fs : List Str) : Sp := fun vs H Q _ => ∃ (a : Addr) (ws : List V), vs = .ref a :: ws ∧ H a = some (exo a C none) ∧ ws.length = fs.length ∧ ∀ d, H d = none → d ≠ a → Q .non (upd (upd H d (exd d (fs.zip ws).reverse)) a (exo a C (some d)))
theorem ini_fn {P : Program} {w : World} {K : PySem.W.Frag} {mg : Str → Option Value} {base : Heap} {x qual : Str} {params : Arguments} {body : List Stmt} {scope : Scope} {dvs : List V} {kws : List (Str × V)} {f C : Addr} {fd : FuncData} {N ps fs : List Str} {B newId initId : String} {bmB : List Value}
    (F : FunD K x qual params body scope dvs kws f fd) (S : FnScope N ps scope) (T : OexT K C B newId initId bmB) (hb : iniAll N ps scope fs body = true) (hf : ∀ f ∈ fs, PySem.W.findIn K (.ref C) f = some none) : FnOk P w K mg base CXn 1 f fd ps (spI C fs) := by
  have hps : ps.length = fs.length + 1 := by
    unfold iniAll at hb
    split at hb
    · simp only [Bool.and_eq_true, decide_eq_true_eq] at hb
      exact hb.1
    · cases hb
  refine F.ok (k := 0) S (fun vs H Q E h => ?_) fun cdv A outer s H vs Q E hr h => ?_
  · obtain ⟨a, ws, rfl, _, hl, _⟩ := h
    rw [List.length_cons, hl, hps]
  · obtain ⟨a, ws, rfl, ha, hl, q⟩ := h
    refine ⟨_, pss_tm _ body, ?_⟩
    refine ini_ok (X := cxOf CXn P w K mg base N qual scope f cdv A outer s H E) T hb hf hl (a := a) ?_ (fun j v e => ?_) ha q
    · unfold L2.start
      rfl
    · have lj : j < ws.length := (List.getElem?_eq_some_iff.mp e).1
      unfold L2.start
      rw [List.getElem?_append_left (by simp only [List.length_map, List.length_cons]; omega), List.map_cons, show 1 + j = j + 1 by omega, List.getElem?_cons_succ, List.getElem?_map, e]
      rfl
theorem xmk_of {X : Cx} {C fI : Addr} {x qual xn : Str} {params : Arguments} {body : List Stmt} {scope : Scope} {fd : FuncData} {N ps fs : List Str} {B newId initId : String} {bmB : List Value}
    (F : FunD X.K x qual params body scope [] [] fI fd) (S : FnScope N ps scope) (T : OexT X.K C B newId initId bmB) (hb : iniAll N ps scope fs body = true) (hf : ∀ f ∈ fs, PySem.W.findIn X.K (.ref C) f = some none)
    (bd : ∀ (s : Shared) (us : List Value), us.length = ps.length → BindsTo s fd ⟨us, []⟩ (ps.zip us))
    (iC : PySem.W.findIn X.K (.ref C) "__init__" = some (some (.ref fI))) (tI : PySem.W.typeIn X.K (.ref fI) = some (.type "function")) (hr : Room 2 X.A) (hm : X.mg xn = some (.ref C)) : XMk X C xn fs := by
  intro pn xe W tk e es p pos t ha hn hg hdb
  have hps : ps.length = fs.length + 1 := by
    unfold iniAll at hb
    split at hb
    · simp only [Bool.and_eq_true, decide_eq_true_eq] at hb
      exact hb.1
    · cases hb
  have h9 : fs.length ≤ 900 := by
    unfold iniAll at hb
    split at hb
    · simp only [Bool.and_eq_true, decide_eq_true_eq] at hb
      exact hb.2.1
    · cases hb
  obtain ⟨n1, n2⟩ := Bool.and_eq_true_iff.mp (show (nst e && nsts es) = true from hn)
  have ha2 : PA (X.tr pn xe) (e :: es) (fun σ H Q => ∃ Q', t σ H Q' ∧ ∀ vs H1, Q' vs H1 → Q vs H1) := ⟨fun pos pins s σ H Q I h => by
    obtain ⟨Q', h1, h2⟩ := h
    exact thn (ha.run pos pins s σ H _ I h1) fun us s1 ⟨vs, H1, I1, r1, q⟩ => ⟨vs, H1, I1, r1, h2 _ _ q⟩⟩
  have F1 : FnOk (X.tr pn xe).prog (X.tr pn xe).w (X.tr pn xe).K (X.tr pn xe).mg (X.tr pn xe).base CXn 1 fI fd ps (spI C fs) := ini_fn F S T hb hf
  have pm := pmk_oexT (X := X.tr pn xe) (CX := CXn) (x := xn) (p := p) (pos := pos) (ds := []) (dvs := []) T iC tI F1 hr (binds_of bd) .nil (fun _ _ _ _ _ _ _ z => z.elim) hg hm ha2 hdb (nst_ok n1 es (X.tr pn xe).env) (plain_ok n2 _ (X.tr pn xe).env)
  intro pins s σ H Q I h
  refine pm pins s σ H Q I ⟨_, h, fun vs H1 q => ?_⟩
  obtain ⟨q1, q2⟩ := q
  refine ⟨by omega, fun a h1 => ?_⟩
  refine ⟨a, vs, by rw [List.append_nil], upd_same, q1, fun d hd ne => ?_⟩
  rw [upd_ne ne] at hd
  refine ⟨rfl, d, _, upd_same, by rw [upd_ne ne]; exact upd_same, hd, ?_⟩
  have e : upd (del (upd (upd (upd H1 a (exo a C none)) d (exd d (fs.zip vs).reverse)) a (exo a C (some d))) a) d (.xd (fs.zip vs).reverse) = upd H1 d (.xd (fs.zip vs).reverse) := by
    funext b
    by_cases hb1 : b = d
    · rw [hb1, upd_same, upd_same]
    · rw [upd_ne hb1, upd_ne hb1]
      by_cases hb2 : b = a
      · rw [hb2, del_same, h1]
      · rw [del_ne hb2, upd_ne hb2, upd_ne hb1, upd_ne hb2]
  rw [e]
  exact q2 d hd
end Dv
end

section
set_option Elab.async false
set_option autoImplicit false
set_option linter.all false
set_option maxRecDepth 100000
set_option maxHeartbeats 4000000
/-! DvR: a module's tables, and what is looked up behind its top. -/
namespace Dv
open PySem L2
/-- a class: a plain one, or an exception's -/
structure CI where
  nm : Str
  ini : Option Nat := none
  ms : List (Nat × Nat) := []
  fs : List Str := []
  xc : Bool := false
  raw : Bool := false
  ve : Bool := true
  xi : Option (List Str) := none
  xg : Nat := 0
  sup : List Str := []
inductive GV where
  | int (i : Int) | str (s : Str) | sts (l : List Str)
def GV.d : GV → D
  | .int i => .int i | .str s => .str s | .sts l => .ktp l
abbrev Dm : Type := He.DefD × Def × List Str × List Str
structure Tabs where
  cs : List (Nat × CI)
  ds : List (Nat × Dm)
  gs : List (Nat × (Str × GV))
  mn : List (Nat × Str)
namespace Tabs
variable (t : Tabs)
def cn (c : Nat) : Str := match t.cs.lookup c with | some c => c.nm | none => ""
def mN (m : Nat) : Str := match t.mn.lookup m with | some m => m | none => ""
def at_ (f : Nat) : Str × Option Str := match t.ds.lookup f with | some d => d.1.at_ | none => ("", none)
def G : Gl where
  con := fun k => match t.gs.lookup k with | some g => some g.2.d | none => none
  mid := fun c m => match t.cs.lookup c with | some c => c.ms.lookup m | none => none
  ini := fun c => match t.cs.lookup c with | some c => c.ini | none => none
  sub := fun k c => match t.cs.lookup k with | some k => k.sup.contains (t.cn c) | none => false
  exi := fun c => match t.cs.lookup c with | some c => c.xi | none => none
  mn := t.mN
  fok := fun c f => match t.cs.lookup c with | some c => !c.xc && c.fs.contains f | none => false
  isc := fun c => match t.cs.lookup c with | some c => c.xc | none => false
  xok := fun c f => match t.cs.lookup c with | some c => c.xc && c.fs.contains f | none => false
  xraw := fun c => match t.cs.lookup c with | some c => c.xc && c.raw | none => false
def B : Tb where
  isf := fun f => match t.ds.lookup f with | some d => d.1.at_.2.isNone | none => false
  cn := t.cn
  fn := fun f => (t.at_ f).1
  gn := fun k => match t.gs.lookup k with | some g => g.1 | none => ""
  cm := true
  xi := 0
def P (f : Nat) : Option Def := match t.ds.lookup f with | some d => some d.2.1 | none => none
def CA (K : PySem.W.Frag) (c : Nat) : Addr := He.ga K (t.cn c)
def FA (K : PySem.W.Frag) (f : Nat) : Addr := He.fAd K (t.at_ f)
end Tabs
/-! ### looks -/
def freeAll : List Str := ["len", "int", "abs", "min", "max", "sum", "str", "list", "tuple", "sorted", "bool", "range", "isinstance"]
def excCB (K : PySem.W.Frag) (D : Addr) : Bool :=
  decide (PySem.W.findIn K (.ref D) "__getattribute__" = some (some (.builtin "BaseException.__getattribute__"))) &&
  decide (PySem.W.findIn K (.ref D) "__getattr__" = some none) &&
  decide (PySem.W.subIn K (.ref D) (.type "BaseException") = some true) &&
  PySem.W.hasDictIn K D &&
  decide (PySem.W.findIn K (.ref D) "__class__" = some (some (.builtin "object.__class__"))) &&
  decide (PySem.W.specialIn K (.builtin "object.__class__") "__get__" = some (some (.builtin "getset_descriptor.__get__"))) &&
  decide (PySem.W.takesIn K (.builtin "object.__class__") = some true) &&
  decide (PySem.W.mroIn K D (.type "object") = some true)
theorem excCB_ok {K : PySem.W.Frag} {D : Addr} (h : excCB K D = true) : ExcC K D := by
  unfold excCB at h
  simp only [Bool.and_eq_true, decide_eq_true_eq] at h
  obtain ⟨⟨⟨⟨⟨⟨⟨h1, h2⟩, h3⟩, h4⟩, h5⟩, h6⟩, h7⟩, h8⟩ := h
  exact ⟨h1, h2, h3, h4, h5, h6, h7, h8⟩
def exBase : List Value := [.type "Exception", .type "BaseException", .type "object"]
def rawB (K : PySem.W.Frag) (ve : Bool) (C : Addr) : Bool := PySem.W.keepIn K (.ref C) && (decide (PySem.W.subIn K (.ref C) (.type "BaseException") = some true) && (decide (PySem.W.typeIn K (.ref C) = some (.type "type")) &&
  (match ve with | true => PySem.W.excIn K C He.veBase "ValueError.__new__" | false => PySem.W.excIn K C exBase "Exception.__new__")))
def oexIn (K : PySem.W.Frag) (C : Addr) (bmB : List Value) (newId : String) : Bool := match K.lookup C with
  | some ⟨.type "type", _, .cls cd, sl⟩ => (match cd.mro, sl.toList with
    | .ref C' :: bm, [_, _, _, _, some (.builtin n), _] => decide (C' = C) && (n == newId && (!cd.hasDel && (cd.hasDict && PySem.W.excTail bmB bm)))
    | _, _ => false)
  | _ => false
theorem oexIn_ok {K : PySem.W.Frag} {C : Addr} {bmB : List Value} {newId : String} (q : oexIn K C bmB newId = true) :
    ∃ nm q N bs bm sn sub ab col dd k0 k1 k2 k3 k5, K.lookup C = some (excClassObj nm q C N bs bm true sn sub ab col dd k0 k1 k2 k3 k5 newId) ∧ PySem.W.excTail bmB bm = true := by
  unfold oexIn at q
  split at q
  · rename_i dd cd sl ho
    split at q
    · rename_i C' bm k0 k1 k2 k3 n k5 hm hs
      simp only [Bool.and_eq_true, beq_iff_eq, Bool.not_eq_true', decide_eq_true_eq] at q
      obtain ⟨rfl, rfl, hdel, hd, ht⟩ := q
      obtain ⟨nm, bs, mro, ns, qn, hdi, sn, sub, ab, col, del⟩ := cd
      dsimp only at hm hdel hd
      subst hm hdel hd
      have hsl : sl = #[k0, k1, k2, k3, some (.builtin n), k5] := by
        obtain ⟨l⟩ := sl
        simp only at hs
        rw [hs]
      subst hsl
      exact ⟨nm, qn, ns, bs, bm, sn, sub, ab, col, dd, k0, k1, k2, k3, k5, ho, ht⟩
    · cases q
  · cases q
/-- a class with its own __init__ -/
def oexB (K : PySem.W.Frag) (ve : Bool) (C : Addr) : Bool := PySem.W.keepIn K (.ref C) && (decide (PySem.W.subIn K (.ref C) (.type "BaseException") = some true) && (decide (PySem.W.typeIn K (.ref C) = some (.type "type")) &&
  (decide (PySem.W.findIn K (.ref C) "__setattr__" = some (some (.builtin "object.__setattr__"))) && (decide (PySem.W.findIn K (.ref C) "__init__" = some (some (.ref (He.ma K C "__init__")))) && (decide (PySem.W.typeIn K (.ref (He.ma K C "__init__")) = some (.type "function")) &&
  (match ve with | true => oexIn K C He.veBase "ValueError.__new__" | false => oexIn K C exBase "Exception.__new__"))))))
theorem oexB_ok {K : PySem.W.Frag} {ve : Bool} {C : Addr} (h : oexB K ve C = true) : (∃ B newId initId bmB, OexT K C B newId initId bmB) ∧ PySem.W.findIn K (.ref C) "__init__" = some (some (.ref (He.ma K C "__init__"))) ∧ PySem.W.typeIn K (.ref (He.ma K C "__init__")) = some (.type "function") := by
  unfold oexB at h
  simp only [Bool.and_eq_true, decide_eq_true_eq] at h
  obtain ⟨h1, h2, h3, h4, h5, h6, h7⟩ := h
  refine ⟨?_, h5, h6⟩
  cases ve with
  | true => exact ⟨_, _, _, _, ⟨F.excBase_ValueError, F.store_ValueError.passes, by decide +kernel, oexIn_ok h7, h4, h2, h3, h1⟩⟩
  | false => exact ⟨_, _, _, _, ⟨F.excBase_Exception, F.store_Exception.passes, by decide +kernel, oexIn_ok h7, h4, h2, h3, h1⟩⟩
namespace Tabs
variable (t : Tabs) (K : PySem.W.Frag)
def okP (c : CI) : Bool := (He.Fa.glo c.nm).ok K && ((He.Fa.cls c.nm).ok K && ((c.fs.all fun f => (He.Fa.noat c.nm f).ok K) && ((c.ms.all fun q => (He.Fa.meth c.nm (t.mN q.1)).ok K && (decide (t.at_ q.2 = (c.nm, some (t.mN q.1))) && (t.ds.lookup q.2).isSome)) &&
  (match c.ini with | none => true | some g => (He.Fa.mkr c.nm).ok K && (decide (t.at_ g = (c.nm, some ("__init__" : Str))) && (t.ds.lookup g).isSome)))))
def okX (c : CI) : Bool := (He.Fa.glo c.nm).ok K && (excCB K (He.ga K c.nm) && ((t.cs.all fun d => !d.2.xc || (decide (PySem.W.kitOne K (.ref (He.ga K c.nm)) (.ref (He.ga K d.2.nm)) = some (c.sup.contains d.2.nm)) && decide (PySem.W.exmOne K (.ref (He.ga K c.nm)) (.ref (He.ga K d.2.nm)) = some (c.sup.contains d.2.nm)))) &&
  ((c.fs.all fun f => xfB K (He.ga K c.nm) && decide (PySem.W.findIn K (.ref (He.ga K c.nm)) f = some none)) && ((!c.raw || rawB K c.ve (He.ga K c.nm)) && ((c.ms.isEmpty && c.ini.isNone) && (match c.xi with | none => true | some fs => oexB K c.ve (He.ga K c.nm) && fs.all fun f => (He.Fa.noat c.nm f).ok K))))))
def okG (g : Str × GV) : Bool := match g.2 with
  | .int i => (He.Fa.int g.1 i).ok K
  | .str s => (He.Fa.str g.1 s).ok K
  | .sts l => (He.Fa.glo g.1).ok K && He.tupB K g.1 (l.map He.Dv.str)
def okD (d : He.DefD × Def × List Str × List Str) : Bool := d.1.ok K && (match d.1.at_.2 with
  | none => (He.Fa.glo d.1.at_.1).ok K
  | some _ => true)
def ok : Bool := (freeAll.all fun x => (He.Fa.free x).ok K) && ((t.ds.all fun d => okD K d.2) && ((t.cs.all fun c => if c.2.xc = true then t.okX K c.2 else t.okP K c.2) && (t.gs.all fun g => okG K g.2)))
/-! ### the Hook -/
def fns : List He.DefD := t.ds.map (·.2.1)
abbrev Al : Type := Bool × List He.FnW
def obs : Al := (t.ok K, t.fns.map fun d => He.fnW K d.at_)
def val : Al := (true, t.fns.map He.DefD.val)
def Says : Prop := t.obs K = t.val
def grw (g : Addr → Option Obj) (as : List Addr) : List Addr := as.flatMap fun a => match g a with
  | some o => He.refsD o
  | none => []
def reach (g : Addr → Option Obj) : List Addr :=
  let a := grw g [mainGlobals]
  let b := grw g a
  let c := grw g b
  let d := grw g c
  mainGlobals :: (a ++ (b ++ (c ++ d)))
def obsG (g : Addr → Option Obj) : Al := t.obs (He.frG g (reach g))
def hook : PySem.W.Hook where
  α := Al
  obs := fun s => t.obsG s.heap.get?
  val := fun _ => t.val
  says := fun _ h => ∃ K : PySem.W.Frag, K.In h ∧ t.Says K
  of := fun _ _ e => ⟨_, He.frG_in, e⟩
  keeps := fun _ _ _ ⟨K, hK, c⟩ k => ⟨K, PySem.W.Frag.In.keeps hK k, c⟩
theorem obsG_eq {g : Addr → Option Obj} {s : Shared} (h : ∀ a, g a = s.heap.get? a) : t.obsG g = t.hook.obs s := by
  have e : g = s.heap.get? := funext h
  rw [e] <;> rfl
end Tabs
/-! ### what the text's defs must be -/
def scB (N ps : List Str) (sc : Scope) : Bool := (match sc.kind with | .function => true | _ => false) && (!sc.isCoroutine && (!sc.isGenerator && (decide N.Nodup && (decide (N.take ps.length = ps) &&
  ((ps.all fun x => match sc.names.lookup x with | some .local => true | some .cell => true | _ => false) && (sc.names.all fun y => match y.2 with | .free => false | _ => true))))))
theorem scB_ok {N ps : List Str} {sc : Scope} (h : scB N ps sc = true) : FnScope N ps sc := by
  unfold scB at h
  simp only [Bool.and_eq_true, Bool.not_eq_true', decide_eq_true_eq] at h
  obtain ⟨h1, h2, h3, h4, h5, h6, h7⟩ := h
  refine ⟨?_, h2, h3, h4, h5, fun x hx => ?_, fun y hy e => ?_⟩
  · split at h1
    · assumption
    · cases h1
  · have := List.all_eq_true.mp h6 x hx
    split at this
    · exact .inl (by assumption)
    · exact .inr (by assumption)
    · cases this
  · have := List.all_eq_true.mp h7 y hy
    rw [e] at this
    cases this
/-- a def of the tables -/
structure OkDef (t : Tabs) (d : He.DefD × Def × List Str × List Str) : Prop where
  sc : scB d.2.2.1 d.2.2.2 d.1.scope = true
  np : d.2.2.2.length = d.2.1.np
  ns : d.2.2.1.length = d.2.1.ns
  dfl : d.1.dfl = []
  kwd : d.1.kwd = []
  m : (ms t.G d.2.2.1 d.1.scope d.2.1.body t.B).b d.1.body = true
  bd : ∀ (K : PySem.W.Frag) (f : Addr) (fd : FuncData), FunD K d.1.name d.1.qual d.1.params d.1.body d.1.scope [] [] f fd → ∀ (s : Shared) (us : List Value), us.length = d.2.2.2.length → BindsTo s fd ⟨us, []⟩ (d.2.2.2.zip us)
inductive OkAll (t : Tabs) : List (Nat × Dm) → Prop
  | nil : OkAll t []
  | cons {d : Nat × Dm} {l : List (Nat × Dm)} (h : OkDef t d.2) (r : OkAll t l) : OkAll t (d :: l)
theorem mem_lookup {α : Type} {l : List (Nat × α)} {k : Nat} {v : α} (h : l.lookup k = some v) : (k, v) ∈ l := by
  induction l with
  | nil => cases h
  | cons a l ih =>
    obtain ⟨g, x⟩ := a
    rw [List.lookup_cons] at h
    split at h
    · rename_i e
      cases h
      have : k = g := by simpa using e
      rw [this]
      exact List.mem_cons_self
    · exact List.mem_cons_of_mem _ (ih h)
theorem OkAll.mem {t : Tabs} {l : List (Nat × Dm)} (a : OkAll t l) {d : Nat × Dm} (e : d ∈ l) : OkDef t d.2 := by
  induction a with
  | nil => cases e
  | cons h r ih =>
    rcases List.mem_cons.mp e with e | e
    · rw [e]; exact h
    · exact ih e
theorem contains_of {l : List Str} {x : Str} (h : l.contains x = true) : x ∈ l := by simpa using h
theorem Tabs.fun_of {t : Tabs} {K : PySem.W.Frag} {f : Nat} {x : He.DefD × Def × List Str × List Str} (c : t.Says K) (a : OkAll t t.ds) (ex : t.ds.lookup f = some x) : OkDef t x ∧ ∃ fd, FunD K x.1.name x.1.qual x.1.params x.1.body x.1.scope [] [] (t.FA K f) fd := by
  have ok : t.ok K = true := congrArg (fun z : Tabs.Al => z.1) c
  have fv : t.fns.map (fun d => He.fnW K d.at_) = t.fns.map He.DefD.val := congrArg (fun z : Tabs.Al => z.2) c
  obtain ⟨_, ok⟩ := Bool.and_eq_true_iff.mp ok
  obtain ⟨o2, ok⟩ := Bool.and_eq_true_iff.mp ok
  have o := OkAll.mem a (mem_lookup ex)
  have q := List.all_eq_true.mp o2 (f, x) (mem_lookup ex)
  unfold okD at q
  obtain ⟨q1, _⟩ := Bool.and_eq_true_iff.mp q
  have hm : x.1 ∈ t.fns := List.mem_map.mpr ⟨(f, x), mem_lookup ex, rfl⟩
  have e2 : He.fnW K x.1.at_ = x.1.val := List.map_inj_left.mp fv x.1 hm
  obtain ⟨fd, F⟩ := He.DefD.funD e2 q1
  have z1 : x.1.dvs K = [] := by unfold He.DefD.dvs; rw [o.dfl]; rfl
  have z2 : x.1.kws K = [] := by unfold He.DefD.kws; rw [o.kwd]; rfl
  rw [z1, z2] at F
  have hf : t.FA K f = He.fAd K x.1.at_ := by unfold Tabs.FA Tabs.at_; rw [ex]
  rw [hf]
  exact ⟨o, fd, F⟩
theorem Tabs.def_of {t : Tabs} {K : PySem.W.Frag} {f : Nat} {x : He.DefD × Def × List Str × List Str} (c : t.Says K) (a : OkAll t t.ds) (ex : t.ds.lookup f = some x) : ∃ fd, DefF K t.G t.B (t.FA K f) x.2.1 fd x.2.2.2 := by
  obtain ⟨o, fd, F⟩ := Tabs.fun_of c a ex
  exact ⟨fd, _, _, _, _, _, _, F, scB_ok o.sc, o.np, o.ns, o.bd K _ fd F, o.m⟩
/-- the classes with an __init__ of their own, as the text has it -/
def Tabs.xiOk (t : Tabs) : Bool := t.cs.all fun c => match c.2.xi with
  | none => true
  | some fs => c.2.xc && (match t.ds.lookup c.2.xg with
    | some x => decide (t.at_ c.2.xg = (c.2.nm, some ("__init__" : Str))) && iniAll x.2.2.1 x.2.2.2 x.1.scope fs x.1.body
    | none => false)
theorem Tabs.xmk {t : Tabs} {P₀ : Program} {w : World} {K : PySem.W.Frag} {mg : Str → Option Value} {h : Heap} (KX : K.In h) (Gm : h.Ns mainGlobals mg) (c : t.Says K) (a : OkAll t t.ds) (xo : t.xiOk = true) :
    ∀ c fs, t.G.exi c = some fs → ∀ X : Cx, X.prog = P₀ → X.w = w → X.K = K → X.mg = mg → Room 2 X.A → XMk X (t.CA K c) (t.B.cn c) fs := by
  intro cc fs e X e1 e2 e3 e4 hr
  have ok : t.ok K = true := congrArg (fun z : Tabs.Al => z.1) c
  obtain ⟨o1, ok⟩ := Bool.and_eq_true_iff.mp ok
  obtain ⟨o2, ok⟩ := Bool.and_eq_true_iff.mp ok
  obtain ⟨o3, o4⟩ := Bool.and_eq_true_iff.mp ok
  have e : (match t.cs.lookup cc with | some c => c.xi | none => none) = some fs := e
  split at e
  · rename_i ci ec
    have q0 := List.all_eq_true.mp xo (cc, ci) (mem_lookup ec)
    simp only [e] at q0
    obtain ⟨hx, q0⟩ := Bool.and_eq_true_iff.mp q0
    split at q0
    · rename_i x ex
      obtain ⟨q1, q2⟩ := Bool.and_eq_true_iff.mp q0
      have q1 := of_decide_eq_true q1
      have q := List.all_eq_true.mp o3 (cc, ci) (mem_lookup ec)
      rw [if_pos hx] at q
      unfold Tabs.okX at q
      simp only [Bool.and_eq_true] at q
      have q5 := q.2.2.2.2.2.2
      rw [e] at q5
      simp only [Bool.and_eq_true] at q5
      obtain ⟨⟨B, newId, initId, bmB, T⟩, i1, i2⟩ := oexB_ok q5.1
      obtain ⟨o, fd, F⟩ := Tabs.fun_of c a ex
      have cn : t.cn cc = ci.nm := by unfold Tabs.cn; rw [ec]
      have hc : t.CA K cc = He.ga K ci.nm := by unfold Tabs.CA; rw [cn]
      have hf : t.FA K ci.xg = He.ma K (He.ga K ci.nm) "__init__" := by unfold Tabs.FA; rw [q1]; rfl
      have hm : X.mg (t.B.cn cc) = some (.ref (t.CA K cc)) := by
        rw [e4]
        show mg (t.cn cc) = _
        rw [hc, cn]
        exact He.glo_ok KX Gm q.1
      have bd := o.bd K _ fd F
      rw [hf] at F
      rw [hc] at hm ⊢
      subst e3
      exact xmk_of F (scB_ok o.sc) T q2 (fun f hf => He.noat_ok (List.all_eq_true.mp q5.2 f hf)) bd i1 i2 hr hm
    · cases q0
  · cases e
/-! ### the module, as the walk wants it -/
theorem Tabs.wd {t : Tabs} {P₀ : Program} {w : World} {K : PySem.W.Frag} {mg : Str → Option Value} {h : Heap} (KX : K.In h) (Gm : h.Ns mainGlobals mg) (c : t.Says K) (a : OkAll t t.ds)
    (xmk : ∀ c fs, t.G.exi c = some fs → ∀ X : Cx, X.prog = P₀ → X.w = w → X.K = K → X.mg = mg → Room 2 X.A → XMk X (t.CA K c) (t.B.cn c) fs) : Wd P₀ w K mg t.G t.P t.B (t.CA K) (t.FA K) := by
  have ok : t.ok K = true := congrArg (fun z : Tabs.Al => z.1) c
  have fv : t.fns.map (fun d => He.fnW K d.at_) = t.fns.map He.DefD.val := congrArg (fun z : Tabs.Al => z.2) c
  obtain ⟨o1, ok⟩ := Bool.and_eq_true_iff.mp ok
  obtain ⟨o2, ok⟩ := Bool.and_eq_true_iff.mp ok
  obtain ⟨o3, o4⟩ := Bool.and_eq_true_iff.mp ok
  have free : ∀ x, x ∈ freeAll → mg x = none := fun x hx => He.free_ok KX Gm (List.all_eq_true.mp o1 x hx)
  have dd : ∀ i d, t.ds.lookup i = some d → okD K d = true := fun i d e => List.all_eq_true.mp o2 (i, d) (mem_lookup e)
  have cc : ∀ i c, t.cs.lookup i = some c → (if c.xc = true then t.okX K c else t.okP K c) = true := fun i c e => List.all_eq_true.mp o3 (i, c) (mem_lookup e)
  have lt : ∀ g, (t.ds.lookup g).isSome = true → ∃ d, t.P g = some d := fun g hg => by
    obtain ⟨x, e⟩ := Option.isSome_iff_exists.mp hg
    exact ⟨x.2.1, by unfold Tabs.P; rw [e]⟩
  have plain : ∀ i c, t.cs.lookup i = some c → c.xc = false → t.okP K c = true := fun i c e hx => by
    have := cc i c e
    rw [if_neg (by rw [hx]; decide)] at this
    exact this
  have exc : ∀ i c, t.cs.lookup i = some c → c.xc = true → t.okX K c = true := fun i c e hx => by
    have := cc i c e
    rw [if_pos hx] at this
    exact this
  have msx : ∀ (i : Nat) (c : CI), t.cs.lookup i = some c → c.xc = true → c.ms = [] ∧ c.ini = none := fun i c e hx => by
    have q := exc i c e hx
    unfold Tabs.okX at q
    simp only [Bool.and_eq_true] at q
    exact ⟨by simpa using q.2.2.2.2.2.1.1, by simpa using q.2.2.2.2.2.1.2⟩
  have cnE : ∀ (i : Nat) (c : CI), t.cs.lookup i = some c → t.cn i = c.nm := fun i c e => by unfold Tabs.cn; rw [e]
  refine {
    cm := rfl
    bln := fun b => free _ (by cases b <;> decide +kernel)
    tyn := fun b => free _ (by cases b <;> decide +kernel)
    rgn := free _ (by decide +kernel)
    isn := free _ (by decide +kernel)
    con := fun k d e => ?_
    fns := fun f e => ?_
    mth := fun c m g e => ?_
    mak := fun c g e => ?_
    fld := fun c f e => ?_
    xcl := fun c e => ?_
    xsb := fun k c e1 e2 => ?_
    xfl := fun k f e => ?_
    xrw := fun c e => ?_
    xmk := xmk
    defs := fun f d e => ?_ }
  · have e : (match t.gs.lookup k with | some g => some g.2.d | none => none) = some d := e
    split at e
    · rename_i g eg
      cases e
      have q := List.all_eq_true.mp o4 (k, g) (mem_lookup eg)
      have hn : t.B.gn k = g.1 := by show (match t.gs.lookup k with | some g => g.1 | none => "") = _; rw [eg]
      rw [hn]
      obtain ⟨x, v⟩ := g
      cases v with
      | int i =>
        obtain ⟨tk, e⟩ := He.int_ok KX Gm q
        exact ⟨.int i, _, e, ⟨tk, rfl⟩, fun H ρ => of_int⟩
      | str s =>
        obtain ⟨tk, e⟩ := He.str_ok KX Gm q
        exact ⟨.str s, _, e, ⟨tk, rfl⟩, fun H ρ => of_str⟩
      | sts l =>
        obtain ⟨q1, q2⟩ := Bool.and_eq_true_iff.mp q
        refine ⟨.ref (He.ga K x), _, He.glo_ok KX Gm q1, rfl, fun H ρ => ?_⟩
        show RV K H ρ (.ktp l) _
        simp only [RV]
        refine ⟨_, rfl, ?_⟩
        have z := He.tupB_ok q2 (fun _ => none)
        rcases z with (z | ⟨_, z⟩) | z
        · cases z
        · cases z
        · obtain ⟨o, its, n, z1, z2, z3, z4, z5⟩ := z
          refine ⟨o, its, n, z1, z2, z3, z4, ?_⟩
          rw [List.map_map] at z5
          exact z5
    · cases e
  · have e : (match t.ds.lookup f with | some d => d.1.at_.2.isNone | none => false) = true := e
    split at e
    · rename_i d ed
      have q := dd f d ed
      unfold okD at q
      obtain ⟨_, q⟩ := Bool.and_eq_true_iff.mp q
      have ha : t.at_ f = d.1.at_ := by unfold Tabs.at_; rw [ed]
      obtain ⟨y, e⟩ : ∃ y, d.1.at_ = (y, none) := ⟨d.1.at_.1, by
        have := Option.isNone_iff_eq_none.mp e
        rw [← this]⟩
      rw [e] at q
      refine ⟨?_, d.2.1, by unfold Tabs.P; rw [ed]⟩
      show mg (t.at_ f).1 = some (.ref (He.fAd K (t.at_ f)))
      rw [ha, e]
      exact He.glo_ok KX Gm q
    · cases e
  · have e : (match t.cs.lookup c with | some c => c.ms.lookup m | none => none) = some g := e
    split at e
    · rename_i ci ec
      have hx : ci.xc = false := by
        cases hx : ci.xc with
        | false => rfl
        | true => rw [(msx c ci ec hx).1] at e; cases e
      have q := plain c ci ec hx
      unfold Tabs.okP at q
      simp only [Bool.and_eq_true] at q
      have q4 := List.all_eq_true.mp q.2.2.2.1 (m, g) (mem_lookup e)
      simp only [Bool.and_eq_true, decide_eq_true_eq] at q4
      obtain ⟨k1, k2, k3⟩ := q4
      have hc : t.CA K c = He.ga K ci.nm := by unfold Tabs.CA; rw [cnE c ci ec]
      have hf : t.FA K g = He.ma K (He.ga K ci.nm) (t.mN m) := by unfold Tabs.FA; rw [k2]; rfl
      refine ⟨by rw [hc]; exact He.cls_ok q.2.1, ?_, lt g k3⟩
      rw [hc, hf]
      exact He.meth_ok k1
    · cases e
  · have e : (match t.cs.lookup c with | some c => c.ini | none => none) = some g := e
    split at e
    · rename_i ci ec
      have hx : ci.xc = false := by
        cases hx : ci.xc with
        | false => rfl
        | true => rw [(msx c ci ec hx).2] at e; cases e
      have q := plain c ci ec hx
      unfold Tabs.okP at q
      simp only [Bool.and_eq_true] at q
      have q5 := q.2.2.2.2
      rw [e] at q5
      simp only [Bool.and_eq_true, decide_eq_true_eq] at q5
      obtain ⟨k1, k2, k3⟩ := q5
      have hc : t.CA K c = He.ga K ci.nm := by unfold Tabs.CA; rw [cnE c ci ec]
      have hf : t.FA K g = He.ma K (He.ga K ci.nm) "__init__" := by unfold Tabs.FA; rw [k2]; rfl
      refine ⟨?_, ?_, lt g k3⟩
      · show mg (t.cn c) = _
        rw [hc, cnE c ci ec]
        exact He.glo_ok KX Gm q.1
      · rw [hc, hf]
        exact He.mkr_ok k1
    · cases e
  · have e : (match t.cs.lookup c with | some c => !c.xc && c.fs.contains f | none => false) = true := e
    split at e
    · rename_i ci ec
      obtain ⟨e1, e2⟩ := Bool.and_eq_true_iff.mp e
      have q := plain c ci ec (by simpa using e1)
      unfold Tabs.okP at q
      simp only [Bool.and_eq_true] at q
      have hc : t.CA K c = He.ga K ci.nm := by unfold Tabs.CA; rw [cnE c ci ec]
      rw [hc]
      exact ⟨He.cls_ok q.2.1, He.noat_ok (List.all_eq_true.mp q.2.2.1 f (contains_of e2))⟩
    · cases e
  · have e : (match t.cs.lookup c with | some c => c.xc | none => false) = true := e
    split at e
    · rename_i ci ec
      have q := exc c ci ec e
      unfold Tabs.okX at q
      simp only [Bool.and_eq_true] at q
      have hc : t.CA K c = He.ga K ci.nm := by unfold Tabs.CA; rw [cnE c ci ec]
      refine ⟨?_, by rw [hc]; exact excCB_ok q.2.1⟩
      show mg (t.cn c) = _
      rw [hc, cnE c ci ec]
      exact He.glo_ok KX Gm q.1
    · cases e
  · have e1 : (match t.cs.lookup k with | some c => c.xc | none => false) = true := e1
    have e2 : (match t.cs.lookup c with | some c => c.xc | none => false) = true := e2
    split at e1
    · rename_i ki ek
      split at e2
      · rename_i ci ec
        have q := exc k ki ek e1
        unfold Tabs.okX at q
        simp only [Bool.and_eq_true] at q
        have q3 := List.all_eq_true.mp q.2.2.1 (c, ci) (mem_lookup ec)
        rw [e2] at q3
        simp only [Bool.not_true, Bool.false_or, Bool.and_eq_true, decide_eq_true_eq] at q3
        have hk : t.CA K k = He.ga K ki.nm := by unfold Tabs.CA; rw [cnE k ki ek]
        have hc : t.CA K c = He.ga K ci.nm := by unfold Tabs.CA; rw [cnE c ci ec]
        have hs : t.G.sub k c = ki.sup.contains ci.nm := by
          show (match t.cs.lookup k with | some k => k.sup.contains (t.cn c) | none => false) = _
          rw [ek, cnE c ci ec]
        rw [hk, hc, hs]
        exact q3
      · cases e2
    · cases e1
  · have e : (match t.cs.lookup k with | some c => c.xc && c.fs.contains f | none => false) = true := e
    split at e
    · rename_i ci ec
      obtain ⟨e1, e2⟩ := Bool.and_eq_true_iff.mp e
      have q := exc k ci ec e1
      unfold Tabs.okX at q
      simp only [Bool.and_eq_true] at q
      have q4 := List.all_eq_true.mp q.2.2.2.1 f (contains_of e2)
      simp only [Bool.and_eq_true, decide_eq_true_eq] at q4
      have hc : t.CA K k = He.ga K ci.nm := by unfold Tabs.CA; rw [cnE k ci ec]
      rw [hc]
      exact ⟨xfB_ok q4.1, q4.2⟩
    · cases e
  · have e : (match t.cs.lookup c with | some c => c.xc && c.raw | none => false) = true := e
    split at e
    · rename_i ci ec
      obtain ⟨e1, e2⟩ := Bool.and_eq_true_iff.mp e
      have q := exc c ci ec e1
      unfold Tabs.okX at q
      simp only [Bool.and_eq_true] at q
      have q5 := q.2.2.2.2.1
      rw [e2] at q5
      simp only [Bool.not_true, Bool.false_or] at q5
      unfold rawB at q5
      simp only [Bool.and_eq_true, decide_eq_true_eq] at q5
      have hc : t.CA K c = He.ga K ci.nm := by unfold Tabs.CA; rw [cnE c ci ec]
      refine ⟨?_, by rw [hc]; exact q5.1, by rw [hc]; exact ⟨q5.2.1, q5.2.2.1⟩, ?_⟩
      · show mg (t.cn c) = _
        rw [hc, cnE c ci ec]
        exact He.glo_ok KX Gm q.1
      · rw [hc]
        have q6 := q5.2.2.2
        split at q6
        · exact ⟨_, _, _, _, F.excBase_ValueError, q6⟩
        · exact ⟨_, _, _, _, F.excBase_Exception, q6⟩
    · cases e
  · have e : (match t.ds.lookup f with | some d => some d.2.1 | none => none) = some d := e
    split at e
    · rename_i x ex
      cases e
      obtain ⟨fd, z⟩ := Tabs.def_of c a ex
      exact ⟨fd, _, z⟩
    · cases e
/-- the law's def behind the top -/
theorem Tabs.law {t : Tabs} {P₀ : Program} {w : World} {K : PySem.W.Frag} {h : Heap} {mg : Str → Option Value} {fa : Addr} {lw : Str} {f n : Nat} {x : He.DefD × Def × List Str × List Str} {y : Str} (X : K.In h) (Gm : h.Ns mainGlobals mg) (hfa : mg lw = some (.ref fa)) (c : t.Says K) (a : OkAll t t.ds)
    (ex : t.ds.lookup f = some x) (hl : x.1.at_ = (lw, none)) (hy : x.2.2.2 = [y]) (xo : t.xiOk = true) :
    ∃ fd : FuncData, (∀ (s : Shared) (v : Value), BindsTo s fd ⟨[v], []⟩ [(y, v)]) ∧ ∀ base : Heap, K.In base → base.Ns mainGlobals mg → FnOk P₀ w K mg base CXn (2 * n + 1) fa fd [y] (fun vs H Q _ => spC (t.CA K) K (callN t.G t.P n) f vs H Q fun _ _ _ => False) := by
  have W := Tabs.wd (P₀ := P₀) (w := w) X Gm c a (Tabs.xmk X Gm c a xo)
  have hP : t.P f = some x.2.1 := by unfold Tabs.P; rw [ex]
  have hi : t.B.isf f = true := by
    show (match t.ds.lookup f with | some d => d.1.at_.2.isNone | none => false) = true
    rw [ex]
    show x.1.at_.2.isNone = true
    rw [hl]
    rfl
  have hn : t.B.fn f = lw := by
    show (t.at_ f).1 = lw
    unfold Tabs.at_
    rw [ex]
    show x.1.at_.1 = lw
    rw [hl]
  have e := (W.fns f hi).1
  rw [hn, hfa] at e
  have e : fa = t.FA K f := by injection e with e; injection e
  subst e
  obtain ⟨fd, df⟩ := Tabs.def_of c a ex
  rw [hy] at df
  refine ⟨fd, fun s v => ?_, fun base _ _ => def_out W base hP df⟩
  obtain ⟨_, _, _, _, _, _, _, _, _, _, b, _⟩ := df
  exact b s [v] rfl
end Dv
end

section
set_option Elab.async false
set_option autoImplicit false
set_option linter.all false
set_option maxRecDepth 100000
/-! Bd: the bodies, printed by gen.py -/
namespace Bd
open Dv
/-- BadText.__init__: self at -/
def f0 : Def := ⟨2, 2, (.cons (.asg (.att (.var 0) "at") (.var 1)) .nil)⟩
/-- _law_is_integer: _law_x -/
def f14 : Def := ⟨1, 1, (.cons (.ret (.and (.isi (.var 0) .int) (.not (.isi (.var 0) .bool)))) .nil)⟩
/-- _law_row: _law_script _law_place _law_many _law_cell _law_rest _law_row_here _law_k _law_mixed -/
def f15 : Def := ⟨3, 8, (.cons (.asg (.nm 3) (.bin .add (.bin .mul (.int 7919) (.var 1)) (.int 5))) (.cons (.ite (.cmp .lt (.var 1) (.bi .len (.cons (.var 0) .nil))) (.cons (.asg (.nm 3) (.idx (.var 0) (.var 1))) .nil) .nil) (.cons (.asg (.nm 4) (.bin .sub (.var 3) (.bin .pow (.int 10) (.int 18)))) (.cons (.asg (.nm 5) (.lst .nil)) (.cons (.for_ [6] true (.rng (.cons (.var 2) .nil)) (.cons (.ite (.cmp .gt (.var 4) (.int 0)) (.cons (.ex (.bm .append (.var 5) (.cons (.bin .mod (.bi .int (.cons (.var 4) .nil)) (.int 1000)) .nil))) (.cons (.asg (.nm 4) (.bin .fdiv (.var 4) (.int 1000))) .nil)) (.cons (.asg (.nm 7) (.bin .mod (.bi .int (.cons (.bin .add (.bin .add (.bin .mul (.var 3) (.int 48271)) (.bin .mul (.var 6) (.int 69621))) (.int 12345)) .nil)) (.int 2147483647))) (.cons (.asg (.nm 7) (.bin .mod (.bi .int (.cons (.bin .add (.bin .add (.bin .mul (.var 7) (.var 7)) (.bin .mul (.var 7) (.int 16807))) (.bin .mul (.var 6) (.int 40692))) .nil)) (.int 2147483399))) (.cons (.ex (.bm .append (.var 5) (.cons (.bin .mod (.bin .fdiv (.var 7) (.int 64)) (.int 1000)) .nil))) .nil)))) .nil)) (.cons (.ret (.var 5)) .nil))))))⟩
/-- share: amount weights whole parts rests left order k at weight -/
def f186 : Def := ⟨2, 10, (.cons (.ite (.or (.not (.var 1)) (.or (.cmp .lt (.bi .min (.cons (.var 1) .nil)) (.int 0)) (.cmp .eq (.bi .max (.cons (.var 1) .nil)) (.int 0)))) (.cons (.rai 2 (.cons (.str "weights") .nil)) .nil) .nil) (.cons (.asg (.nm 2) (.bi .sum (.cons (.var 1) .nil))) (.cons (.asg (.nm 3) (.cmp1 (.bin .fdiv (.bin .mul (.var 0) (.var 9)) (.var 2)) [9] true [9] (.var 1) .nil)) (.cons (.asg (.nm 4) (.cmp1 (.bin .mod (.bi .int (.cons (.bin .mul (.var 0) (.var 9)) .nil)) (.var 2)) [9] true [9] (.var 1) .nil)) (.cons (.asg (.nm 5) (.bin .sub (.var 0) (.bi .sum (.cons (.var 3) .nil)))) (.cons (.asg (.nm 6) (.bi .sorted (.cons (.cmp1 (.tup (.cons (.neg (.idx (.var 4) (.var 7))) (.cons (.var 7) .nil))) [7] true [7] (.rng (.cons (.bi .len (.cons (.var 1) .nil)) .nil)) .nil) .nil))) (.cons (.for_ [7] true (.rng (.cons (.var 5) .nil)) (.cons (.asg (.nm 8) (.idx (.idx (.var 6) (.var 7)) (.int 1))) (.cons (.asg (.sub (.var 3) (.var 8)) (.bin .add (.idx (.var 3) (.var 8)) (.int 1))) .nil))) (.cons (.ret (.var 3)) .nil))))))))⟩
/-- _law_refused: _law_amount _law_weights_here e -/
def f187 : Def := ⟨2, 3, (.cons (.tri (.cons (.ex (.cal 186 (.cons (.var 0) (.cons (.var 1) .nil)))) .nil) 0 (some 2) (.cons (.ret (.and (.isx 2) (.and (.not (.isx 1)) (.not (.isx 3))))) .nil)) (.cons (.ret (.bl false)) .nil))⟩
/-- _law_weights: _law_row_here _law_weights_here _law_k _law_weight -/
def f188 : Def := ⟨1, 4, (.cons (.asg (.nm 1) (.lst .nil)) (.cons (.for_ [2] true (.rng (.cons (.bin .add (.int 1) (.bin .mod (.bi .int (.cons (.idx (.var 0) (.int 0)) .nil)) (.int 8))) .nil)) (.cons (.asg (.nm 3) (.bin .mod (.bi .int (.cons (.idx (.var 0) (.bin .add (.int 2) (.var 2))) .nil)) (.int 13))) (.cons (.ite (.cmp .eq (.bin .mod (.bi .int (.cons (.idx (.var 0) (.int 1)) .nil)) (.int 3)) (.int 0)) (.cons (.asg (.nm 3) (.bin .add (.bin .mul (.idx (.var 0) (.bin .add (.int 2) (.var 2))) (.int 1000000)) (.idx (.var 0) (.bin .add (.int 10) (.var 2))))) .nil) .nil) (.cons (.ite (.cmp .eq (.bin .mod (.bi .int (.cons (.idx (.var 0) (.bin .add (.int 18) (.var 2))) .nil)) (.int 5)) (.int 0)) (.cons (.asg (.nm 3) (.int 0)) .nil) .nil) (.cons (.ex (.bm .append (.var 1) (.cons (.var 3) .nil))) .nil))))) (.cons (.ite (.cmp .eq (.bi .max (.cons (.var 1) .nil)) (.int 0)) (.cons (.asg (.sub (.var 1) (.bin .mod (.bi .int (.cons (.idx (.var 0) (.int 1)) .nil)) (.bi .len (.cons (.var 1) .nil)))) (.bin .add (.int 1) (.idx (.var 0) (.int 2)))) .nil) .nil) (.cons (.ret (.var 1)) .nil))))⟩
/-- _law_parts: _law_amount _law_weights_here _law_whole _law_parts_here _law_rests _law_weight _law_turn _law_at -/
def f189 : Def := ⟨2, 8, (.cons (.asg (.nm 2) (.bi .sum (.cons (.var 1) .nil))) (.cons (.asg (.nm 3) (.lst .nil)) (.cons (.asg (.nm 4) (.lst .nil)) (.cons (.for_ [5] true (.var 1) (.cons (.ex (.bm .append (.var 3) (.cons (.bin .fdiv (.bi .int (.cons (.bin .mul (.var 0) (.var 5)) .nil)) (.var 2)) .nil))) (.cons (.ex (.bm .append (.var 4) (.cons (.bin .sub (.bin .mul (.var 0) (.var 5)) (.bin .mul (.idx (.var 3) (.neg (.int 1))) (.var 2))) .nil))) .nil))) (.cons (.for_ [6] true (.rng (.cons (.bin .sub (.var 0) (.bi .sum (.cons (.var 3) .nil))) .nil)) (.cons (.asg (.nm 7) (.bm .index (.var 4) (.cons (.bi .max (.cons (.var 4) .nil)) .nil))) (.cons (.asg (.sub (.var 3) (.var 7)) (.bin .add (.idx (.var 3) (.var 7)) (.int 1))) (.cons (.asg (.sub (.var 4) (.var 7)) (.neg (.int 1))) .nil)))) (.cons (.ret (.var 3)) .nil))))))⟩
/-- law: _law_script _law_row_here _law_weights_here _law_amount _law_passed _law_found _law_whole _law_k -/
def f190 : Def := ⟨1, 8, (.cons (.asg (.nm 1) (.cal 15 (.cons (.var 0) (.cons (.int 0) (.cons (.int 30) .nil))))) (.cons (.asg (.nm 2) (.cal 188 (.cons (.var 1) .nil))) (.cons (.asg (.nm 3) (.bin .mul (.bin .add (.bin .add (.bin .mul (.idx (.var 1) (.int 26)) (.int 1000000)) (.bin .mul (.idx (.var 1) (.int 27)) (.int 1000))) (.idx (.var 1) (.int 28))) (.bin .sub (.int 1) (.bin .mul (.int 2) (.bin .mod (.bi .int (.cons (.idx (.var 1) (.int 29)) .nil)) (.int 2)))))) (.cons (.ite (.cmp .eq (.bin .mod (.bi .int (.cons (.idx (.var 1) (.int 28)) .nil)) (.int 3)) (.int 0)) (.cons (.asg (.nm 3) (.bin .sub (.bin .mod (.bi .int (.cons (.idx (.var 1) (.int 27)) .nil)) (.int 60)) (.int 20))) .nil) .nil) (.cons (.asg (.nm 4) (.bi .list (.cons (.var 2) .nil))) (.cons (.asg (.nm 5) (.cal 186 (.cons (.var 3) (.cons (.var 4) .nil)))) (.cons (.ite (.or (.not (.isi (.var 5) .list)) (.or (.cmp .ne (.bi .len (.cons (.var 5) .nil)) (.bi .len (.cons (.var 2) .nil))) (.cmp .ne (.var 4) (.var 2)))) (.cons (.ret (.bl false)) .nil) .nil) (.cons (.asg (.nm 6) (.bi .sum (.cons (.var 2) .nil))) (.cons (.for_ [7] true (.rng (.cons (.bi .len (.cons (.var 2) .nil)) .nil)) (.cons (.ite (.or (.not (.cal 14 (.cons (.idx (.var 5) (.var 7)) .nil))) (.cmp .ge (.bi .abs (.cons (.bin .sub (.bin .mul (.idx (.var 5) (.var 7)) (.var 6)) (.bin .mul (.var 3) (.idx (.var 2) (.var 7)))) .nil)) (.var 6))) (.cons (.ret (.bl false)) .nil) .nil) (.cons (.ite (.and (.cmp .eq (.idx (.var 2) (.var 7)) (.int 0)) (.cmp .ne (.idx (.var 5) (.var 7)) (.int 0))) (.cons (.ret (.bl false)) .nil) .nil) .nil))) (.cons (.ite (.or (.cmp .ne (.bi .sum (.cons (.var 5) .nil)) (.var 3)) (.cmp .ne (.var 5) (.cal 189 (.cons (.var 3) (.cons (.var 2) .nil))))) (.cons (.ret (.bl false)) .nil) .nil) (.cons (.ret (.and (.cal 187 (.cons (.var 3) (.cons (.lst .nil) .nil))) (.and (.cal 187 (.cons (.var 3) (.cons (.lst (.cons (.int 0) (.cons (.int 0) .nil))) .nil))) (.cal 187 (.cons (.var 3) (.cons (.lst (.cons (.int 2) (.cons (.neg (.int 1)) .nil))) .nil)))))) .nil)))))))))))⟩
end Bd
end

section
set_option Elab.async false
set_option autoImplicit false
set_option linter.all false
set_option maxRecDepth 100000
/-! DvT: what helps to compute with the evaluator. -/
namespace Dv
open PySem
section
variable {G : Gl} {cl : Cl} {cu : Option (Nat × List (Str × D))} {e : Env} {M : Store}
/-! expressions -/
theorem ev_nil_a : (ev G cl cu .nil).a e M = .ok [] M := Eq.trans rfl rfl
theorem ev_nil_p : (ev G cl cu .nil).p e M = .ok none M := Eq.trans rfl rfl
theorem ev_nil_c : (ev G cl cu .nil).c e M = .ok true M := Eq.trans rfl rfl
theorem ev_cons_a (x y : E) : (ev G cl cu (.cons x y)).a e M = ((ev G cl cu x).e e M).bind fun d M1 => ((ev G cl cu y).a e M1).bind fun ds M2 => .ok (d :: ds) M2 := Eq.trans rfl rfl
theorem ev_rng_i (x : E) : (ev G cl cu (.rng x)).i e M = ((ev G cl cu x).a e M).bind fun vs M1 => rngOf M1 vs := Eq.trans rfl rfl
theorem ev_var (i : Nat) : (ev G cl cu (.var i)).e e M = varE i e M := Eq.trans rfl rfl
theorem ev_non : (ev G cl cu .non).e e M = .ok .non M := Eq.trans rfl rfl
theorem ev_bl (b : Bool) : (ev G cl cu (.bl b)).e e M = .ok (.bl b) M := Eq.trans rfl rfl
theorem ev_int (i : Int) : (ev G cl cu (.int i)).e e M = .ok (.int i) M := Eq.trans rfl rfl
theorem ev_str (s : Str) : (ev G cl cu (.str s)).e e M = .ok (.str s) M := Eq.trans rfl rfl
theorem ev_glb (k : Nat) : (ev G cl cu (.glb k)).e e M = ofO (G.con k) M := Eq.trans rfl rfl
theorem ev_bin (o : Op) (a b : E) : (ev G cl cu (.bin o a b)).e e M = ((ev G cl cu a).e e M).bind fun x M1 => ((ev G cl cu b).e e M1).bind fun y M2 => binE o M2 x y := Eq.trans rfl rfl
theorem ev_neg (a : E) : (ev G cl cu (.neg a)).e e M = ((ev G cl cu a).e e M).bind fun x M1 => negE M1 x := Eq.trans rfl rfl
theorem ev_cmp (o : Co) (a b : E) : (ev G cl cu (.cmp o a b)).e e M = ((ev G cl cu a).e e M).bind fun x M1 => ((ev G cl cu b).e e M1).bind fun y M2 => (ofO (cmpE o M2 x y) M2).bind fun c M3 => .ok (.bl c) M3 := Eq.trans rfl rfl
theorem ev_chn (o p : Co) (a b c : E) : (ev G cl cu (.chn o p a b c)).e e M = ((ev G cl cu a).e e M).bind fun x M1 => ((ev G cl cu b).e e M1).bind fun y M2 => (ofO (cmpE o M2 x y) M2).bind fun k M3 =>
      if k = true then ((ev G cl cu c).e e M3).bind fun z M4 => (ofO (cmpE p M4 y z) M4).bind fun c M5 => .ok (.bl c) M5 else .ok (.bl false) M3 := Eq.trans rfl rfl
theorem ev_and (a b : E) : (ev G cl cu (.and a b)).e e M = ((ev G cl cu a).e e M).bind fun x M1 => andE x ((ev G cl cu b).e e) M1 := Eq.trans rfl rfl
theorem ev_or (a b : E) : (ev G cl cu (.or a b)).e e M = ((ev G cl cu a).e e M).bind fun x M1 => orE x ((ev G cl cu b).e e) M1 := Eq.trans rfl rfl
theorem ev_not (a : E) : (ev G cl cu (.not a)).e e M = ((ev G cl cu a).e e M).bind fun x M1 => (ofO (truD M1 x) M1).bind fun b M2 => .ok (.bl (!b)) M2 := Eq.trans rfl rfl
theorem ev_ife (c a b : E) : (ev G cl cu (.ife c a b)).e e M = ((ev G cl cu c).t e M).bind fun t M1 => if t = true then (ev G cl cu a).e e M1 else (ev G cl cu b).e e M1 := Eq.trans rfl rfl
theorem ev_tup (es : E) : (ev G cl cu (.tup es)).e e M = ((ev G cl cu es).a e M).bind fun vs M1 => if vs.length ≤ sizeLine then .ok (.tup vs) M1 else .bad := Eq.trans rfl rfl
theorem ev_lst (es : E) : (ev G cl cu (.lst es)).e e M = ((ev G cl cu es).a e M).bind fun vs M1 => lstG M1 vs := Eq.trans rfl rfl
theorem ev_dnl (tk : Bool) : (ev G cl cu (.dnl tk)).e e M = if tk = true then mk M (.dtt []) else mk M (.dct []) := Eq.trans rfl rfl
theorem ev_idx (a i : E) : (ev G cl cu (.idx a i)).e e M = ((ev G cl cu a).e e M).bind fun x M1 => ((ev G cl cu i).e e M1).bind fun y M2 => ofO (idxE M2 x y) M2 := Eq.trans rfl rfl
theorem ev_slc (a lo hi : E) : (ev G cl cu (.slc a lo hi)).e e M = ((ev G cl cu a).e e M).bind fun x M1 => ((ev G cl cu lo).p e M1).bind fun l M2 => ((ev G cl cu hi).p e M2).bind fun h M3 => slcE M3 x l h := Eq.trans rfl rfl
theorem ev_fld (a : E) (f : Str) : (ev G cl cu (.fld a f)).e e M = ((ev G cl cu a).e e M).bind fun x M1 => fldE G M1 x f := Eq.trans rfl rfl
theorem ev_cal (f : Nat) (es : E) : (ev G cl cu (.cal f es)).e e M = ((ev G cl cu es).a e M).bind fun vs M1 => cl f vs M1 := Eq.trans rfl rfl
theorem ev_mak (c : Nat) (es : E) : (ev G cl cu (.mak c es)).e e M = ((ev G cl cu es).a e M).bind fun vs M1 => makE G cl c vs M1 := Eq.trans rfl rfl
theorem ev_mth (o : E) (m : Nat) (es : E) : (ev G cl cu (.mth o m es)).e e M = ((ev G cl cu o).e e M).bind fun x M1 => match mthE G M1 x m with
      | some g => ((ev G cl cu es).a e M1).bind fun vs M2 => cl g (x :: vs) M2
      | none => .bad := Eq.trans rfl rfl
theorem ev_bi (b : Bi) (es : E) : (ev G cl cu (.bi b es)).e e M = ((ev G cl cu es).a e M).bind fun vs M1 => biE b M1 vs := Eq.trans rfl rfl
theorem ev_bm (m : Bm) (o es : E) : (ev G cl cu (.bm m o es)).e e M = ((ev G cl cu o).e e M).bind fun x M1 => if bmTy m M1 x = true then ((ev G cl cu es).a e M1).bind fun vs M2 => bmE m M2 x vs else .bad := Eq.trans rfl rfl
theorem ev_isi (a : E) (t : Ty) : (ev G cl cu (.isi a t)).e e M = ((ev G cl cu a).e e M).bind fun x M1 => (ofO (isiE M1 x t) M1).bind fun c M2 => .ok (.bl c) M2 := Eq.trans rfl rfl
theorem ev_isx (c : Nat) : (ev G cl cu (.isx c)).e e M = isxE G cu c M := Eq.trans rfl rfl
theorem ev_xfd (f : Str) : (ev G cl cu (.xfd f)).e e M = xfdE G cu f M := Eq.trans rfl rfl
theorem ev_cmp1 (elt : E) (tg : List Nat) (sole : Bool) (own : List Nat) (it cond : E) : (ev G cl cu (.cmp1 elt tg sole own it cond)).e e M = ((ev G cl cu it).i e M).bind fun s M1 =>
      (compL s tg sole (wipeD e own) (fun e' M' => (ev G cl cu cond).c e' M') (fun e' M' => (ev G cl cu elt).e e' M') s.items [] M1).bind fun xs M2 => lstG M2 xs := Eq.trans rfl rfl
/-! tests -/
theorem ev_and_t (a b : E) : (ev G cl cu (.and a b)).t e M = ((ev G cl cu a).t e M).bind fun x M1 => if x = true then (ev G cl cu b).t e M1 else .ok false M1 := Eq.trans rfl rfl
theorem ev_or_t (a b : E) : (ev G cl cu (.or a b)).t e M = ((ev G cl cu a).t e M).bind fun x M1 => if x = true then .ok true M1 else (ev G cl cu b).t e M1 := Eq.trans rfl rfl
theorem ev_not_t (a : E) : (ev G cl cu (.not a)).t e M = ((ev G cl cu a).t e M).bind fun x M1 => .ok (!x) M1 := Eq.trans rfl rfl
theorem ev_and_c (a b : E) : (ev G cl cu (.and a b)).c e M = (ev G cl cu (.and a b)).t e M := Eq.trans rfl rfl
theorem ev_or_c (a b : E) : (ev G cl cu (.or a b)).c e M = (ev G cl cu (.or a b)).t e M := Eq.trans rfl rfl
theorem ev_not_c (a : E) : (ev G cl cu (.not a)).c e M = (ev G cl cu (.not a)).t e M := Eq.trans rfl rfl
end
theorem ev_var_t {G : Gl} {cl : Cl} {cu : Option (Nat × List (Str × D))} {e : Env} {M : Store} (i : Nat) : (ev G cl cu (.var i)).t e M = ((ev G cl cu (.var i)).e e M).bind fun d M1 => ofO (truD M1 d) M1 := Eq.trans rfl rfl
theorem ev_var_c {G : Gl} {cl : Cl} {cu : Option (Nat × List (Str × D))} {e : Env} {M : Store} (i : Nat) : (ev G cl cu (.var i)).c e M = ((ev G cl cu (.var i)).e e M).bind fun d M1 => ofO (truD M1 d) M1 := Eq.trans rfl rfl
theorem ev_var_p {G : Gl} {cl : Cl} {cu : Option (Nat × List (Str × D))} {e : Env} {M : Store} (i : Nat) : (ev G cl cu (.var i)).p e M = ((ev G cl cu (.var i)).e e M).bind fun d M1 => asInt M1 d := Eq.trans rfl rfl
theorem ev_var_i {G : Gl} {cl : Cl} {cu : Option (Nat × List (Str × D))} {e : Env} {M : Store} (i : Nat) : (ev G cl cu (.var i)).i e M = ((ev G cl cu (.var i)).e e M).bind fun d M1 => srcOf M1 d := Eq.trans rfl rfl
theorem ev_non_t {G : Gl} {cl : Cl} {cu : Option (Nat × List (Str × D))} {e : Env} {M : Store}  : (ev G cl cu .non).t e M = ((ev G cl cu .non).e e M).bind fun d M1 => ofO (truD M1 d) M1 := Eq.trans rfl rfl
theorem ev_non_c {G : Gl} {cl : Cl} {cu : Option (Nat × List (Str × D))} {e : Env} {M : Store}  : (ev G cl cu .non).c e M = ((ev G cl cu .non).e e M).bind fun d M1 => ofO (truD M1 d) M1 := Eq.trans rfl rfl
theorem ev_non_p {G : Gl} {cl : Cl} {cu : Option (Nat × List (Str × D))} {e : Env} {M : Store}  : (ev G cl cu .non).p e M = ((ev G cl cu .non).e e M).bind fun d M1 => asInt M1 d := Eq.trans rfl rfl
theorem ev_non_i {G : Gl} {cl : Cl} {cu : Option (Nat × List (Str × D))} {e : Env} {M : Store}  : (ev G cl cu .non).i e M = ((ev G cl cu .non).e e M).bind fun d M1 => srcOf M1 d := Eq.trans rfl rfl
theorem ev_bl_t {G : Gl} {cl : Cl} {cu : Option (Nat × List (Str × D))} {e : Env} {M : Store} (b : Bool) : (ev G cl cu (.bl b)).t e M = ((ev G cl cu (.bl b)).e e M).bind fun d M1 => ofO (truD M1 d) M1 := Eq.trans rfl rfl
theorem ev_bl_c {G : Gl} {cl : Cl} {cu : Option (Nat × List (Str × D))} {e : Env} {M : Store} (b : Bool) : (ev G cl cu (.bl b)).c e M = ((ev G cl cu (.bl b)).e e M).bind fun d M1 => ofO (truD M1 d) M1 := Eq.trans rfl rfl
theorem ev_bl_p {G : Gl} {cl : Cl} {cu : Option (Nat × List (Str × D))} {e : Env} {M : Store} (b : Bool) : (ev G cl cu (.bl b)).p e M = ((ev G cl cu (.bl b)).e e M).bind fun d M1 => asInt M1 d := Eq.trans rfl rfl
theorem ev_bl_i {G : Gl} {cl : Cl} {cu : Option (Nat × List (Str × D))} {e : Env} {M : Store} (b : Bool) : (ev G cl cu (.bl b)).i e M = ((ev G cl cu (.bl b)).e e M).bind fun d M1 => srcOf M1 d := Eq.trans rfl rfl
theorem ev_int_t {G : Gl} {cl : Cl} {cu : Option (Nat × List (Str × D))} {e : Env} {M : Store} (i : Int) : (ev G cl cu (.int i)).t e M = ((ev G cl cu (.int i)).e e M).bind fun d M1 => ofO (truD M1 d) M1 := Eq.trans rfl rfl
theorem ev_int_c {G : Gl} {cl : Cl} {cu : Option (Nat × List (Str × D))} {e : Env} {M : Store} (i : Int) : (ev G cl cu (.int i)).c e M = ((ev G cl cu (.int i)).e e M).bind fun d M1 => ofO (truD M1 d) M1 := Eq.trans rfl rfl
theorem ev_int_p {G : Gl} {cl : Cl} {cu : Option (Nat × List (Str × D))} {e : Env} {M : Store} (i : Int) : (ev G cl cu (.int i)).p e M = ((ev G cl cu (.int i)).e e M).bind fun d M1 => asInt M1 d := Eq.trans rfl rfl
theorem ev_int_i {G : Gl} {cl : Cl} {cu : Option (Nat × List (Str × D))} {e : Env} {M : Store} (i : Int) : (ev G cl cu (.int i)).i e M = ((ev G cl cu (.int i)).e e M).bind fun d M1 => srcOf M1 d := Eq.trans rfl rfl
theorem ev_str_t {G : Gl} {cl : Cl} {cu : Option (Nat × List (Str × D))} {e : Env} {M : Store} (s : Str) : (ev G cl cu (.str s)).t e M = ((ev G cl cu (.str s)).e e M).bind fun d M1 => ofO (truD M1 d) M1 := Eq.trans rfl rfl
theorem ev_str_c {G : Gl} {cl : Cl} {cu : Option (Nat × List (Str × D))} {e : Env} {M : Store} (s : Str) : (ev G cl cu (.str s)).c e M = ((ev G cl cu (.str s)).e e M).bind fun d M1 => ofO (truD M1 d) M1 := Eq.trans rfl rfl
theorem ev_str_p {G : Gl} {cl : Cl} {cu : Option (Nat × List (Str × D))} {e : Env} {M : Store} (s : Str) : (ev G cl cu (.str s)).p e M = ((ev G cl cu (.str s)).e e M).bind fun d M1 => asInt M1 d := Eq.trans rfl rfl
theorem ev_str_i {G : Gl} {cl : Cl} {cu : Option (Nat × List (Str × D))} {e : Env} {M : Store} (s : Str) : (ev G cl cu (.str s)).i e M = ((ev G cl cu (.str s)).e e M).bind fun d M1 => srcOf M1 d := Eq.trans rfl rfl
theorem ev_glb_t {G : Gl} {cl : Cl} {cu : Option (Nat × List (Str × D))} {e : Env} {M : Store} (k : Nat) : (ev G cl cu (.glb k)).t e M = ((ev G cl cu (.glb k)).e e M).bind fun d M1 => ofO (truD M1 d) M1 := Eq.trans rfl rfl
theorem ev_glb_c {G : Gl} {cl : Cl} {cu : Option (Nat × List (Str × D))} {e : Env} {M : Store} (k : Nat) : (ev G cl cu (.glb k)).c e M = ((ev G cl cu (.glb k)).e e M).bind fun d M1 => ofO (truD M1 d) M1 := Eq.trans rfl rfl
theorem ev_glb_p {G : Gl} {cl : Cl} {cu : Option (Nat × List (Str × D))} {e : Env} {M : Store} (k : Nat) : (ev G cl cu (.glb k)).p e M = ((ev G cl cu (.glb k)).e e M).bind fun d M1 => asInt M1 d := Eq.trans rfl rfl
theorem ev_glb_i {G : Gl} {cl : Cl} {cu : Option (Nat × List (Str × D))} {e : Env} {M : Store} (k : Nat) : (ev G cl cu (.glb k)).i e M = ((ev G cl cu (.glb k)).e e M).bind fun d M1 => srcOf M1 d := Eq.trans rfl rfl
theorem ev_bin_t {G : Gl} {cl : Cl} {cu : Option (Nat × List (Str × D))} {e : Env} {M : Store} (o : Op) (a b : E) : (ev G cl cu (.bin o a b)).t e M = ((ev G cl cu (.bin o a b)).e e M).bind fun d M1 => ofO (truD M1 d) M1 := Eq.trans rfl rfl
theorem ev_bin_c {G : Gl} {cl : Cl} {cu : Option (Nat × List (Str × D))} {e : Env} {M : Store} (o : Op) (a b : E) : (ev G cl cu (.bin o a b)).c e M = ((ev G cl cu (.bin o a b)).e e M).bind fun d M1 => ofO (truD M1 d) M1 := Eq.trans rfl rfl
theorem ev_bin_p {G : Gl} {cl : Cl} {cu : Option (Nat × List (Str × D))} {e : Env} {M : Store} (o : Op) (a b : E) : (ev G cl cu (.bin o a b)).p e M = ((ev G cl cu (.bin o a b)).e e M).bind fun d M1 => asInt M1 d := Eq.trans rfl rfl
theorem ev_bin_i {G : Gl} {cl : Cl} {cu : Option (Nat × List (Str × D))} {e : Env} {M : Store} (o : Op) (a b : E) : (ev G cl cu (.bin o a b)).i e M = ((ev G cl cu (.bin o a b)).e e M).bind fun d M1 => srcOf M1 d := Eq.trans rfl rfl
theorem ev_neg_t {G : Gl} {cl : Cl} {cu : Option (Nat × List (Str × D))} {e : Env} {M : Store} (a : E) : (ev G cl cu (.neg a)).t e M = ((ev G cl cu (.neg a)).e e M).bind fun d M1 => ofO (truD M1 d) M1 := Eq.trans rfl rfl
theorem ev_neg_c {G : Gl} {cl : Cl} {cu : Option (Nat × List (Str × D))} {e : Env} {M : Store} (a : E) : (ev G cl cu (.neg a)).c e M = ((ev G cl cu (.neg a)).e e M).bind fun d M1 => ofO (truD M1 d) M1 := Eq.trans rfl rfl
theorem ev_neg_p {G : Gl} {cl : Cl} {cu : Option (Nat × List (Str × D))} {e : Env} {M : Store} (a : E) : (ev G cl cu (.neg a)).p e M = ((ev G cl cu (.neg a)).e e M).bind fun d M1 => asInt M1 d := Eq.trans rfl rfl
theorem ev_neg_i {G : Gl} {cl : Cl} {cu : Option (Nat × List (Str × D))} {e : Env} {M : Store} (a : E) : (ev G cl cu (.neg a)).i e M = ((ev G cl cu (.neg a)).e e M).bind fun d M1 => srcOf M1 d := Eq.trans rfl rfl
theorem ev_cmp_t {G : Gl} {cl : Cl} {cu : Option (Nat × List (Str × D))} {e : Env} {M : Store} (o : Co) (a b : E) : (ev G cl cu (.cmp o a b)).t e M = ((ev G cl cu (.cmp o a b)).e e M).bind fun d M1 => ofO (truD M1 d) M1 := Eq.trans rfl rfl
theorem ev_cmp_c {G : Gl} {cl : Cl} {cu : Option (Nat × List (Str × D))} {e : Env} {M : Store} (o : Co) (a b : E) : (ev G cl cu (.cmp o a b)).c e M = ((ev G cl cu (.cmp o a b)).e e M).bind fun d M1 => ofO (truD M1 d) M1 := Eq.trans rfl rfl
theorem ev_cmp_p {G : Gl} {cl : Cl} {cu : Option (Nat × List (Str × D))} {e : Env} {M : Store} (o : Co) (a b : E) : (ev G cl cu (.cmp o a b)).p e M = ((ev G cl cu (.cmp o a b)).e e M).bind fun d M1 => asInt M1 d := Eq.trans rfl rfl
theorem ev_cmp_i {G : Gl} {cl : Cl} {cu : Option (Nat × List (Str × D))} {e : Env} {M : Store} (o : Co) (a b : E) : (ev G cl cu (.cmp o a b)).i e M = ((ev G cl cu (.cmp o a b)).e e M).bind fun d M1 => srcOf M1 d := Eq.trans rfl rfl
theorem ev_chn_t {G : Gl} {cl : Cl} {cu : Option (Nat × List (Str × D))} {e : Env} {M : Store} (o p : Co) (a b c : E) : (ev G cl cu (.chn o p a b c)).t e M = ((ev G cl cu (.chn o p a b c)).e e M).bind fun d M1 => ofO (truD M1 d) M1 := Eq.trans rfl rfl
theorem ev_chn_c {G : Gl} {cl : Cl} {cu : Option (Nat × List (Str × D))} {e : Env} {M : Store} (o p : Co) (a b c : E) : (ev G cl cu (.chn o p a b c)).c e M = ((ev G cl cu (.chn o p a b c)).e e M).bind fun d M1 => ofO (truD M1 d) M1 := Eq.trans rfl rfl
theorem ev_chn_p {G : Gl} {cl : Cl} {cu : Option (Nat × List (Str × D))} {e : Env} {M : Store} (o p : Co) (a b c : E) : (ev G cl cu (.chn o p a b c)).p e M = ((ev G cl cu (.chn o p a b c)).e e M).bind fun d M1 => asInt M1 d := Eq.trans rfl rfl
theorem ev_chn_i {G : Gl} {cl : Cl} {cu : Option (Nat × List (Str × D))} {e : Env} {M : Store} (o p : Co) (a b c : E) : (ev G cl cu (.chn o p a b c)).i e M = ((ev G cl cu (.chn o p a b c)).e e M).bind fun d M1 => srcOf M1 d := Eq.trans rfl rfl
theorem ev_tup_t {G : Gl} {cl : Cl} {cu : Option (Nat × List (Str × D))} {e : Env} {M : Store} (a : E) : (ev G cl cu (.tup a)).t e M = ((ev G cl cu (.tup a)).e e M).bind fun d M1 => ofO (truD M1 d) M1 := Eq.trans rfl rfl
theorem ev_tup_c {G : Gl} {cl : Cl} {cu : Option (Nat × List (Str × D))} {e : Env} {M : Store} (a : E) : (ev G cl cu (.tup a)).c e M = ((ev G cl cu (.tup a)).e e M).bind fun d M1 => ofO (truD M1 d) M1 := Eq.trans rfl rfl
theorem ev_tup_p {G : Gl} {cl : Cl} {cu : Option (Nat × List (Str × D))} {e : Env} {M : Store} (a : E) : (ev G cl cu (.tup a)).p e M = ((ev G cl cu (.tup a)).e e M).bind fun d M1 => asInt M1 d := Eq.trans rfl rfl
theorem ev_tup_i {G : Gl} {cl : Cl} {cu : Option (Nat × List (Str × D))} {e : Env} {M : Store} (a : E) : (ev G cl cu (.tup a)).i e M = ((ev G cl cu (.tup a)).e e M).bind fun d M1 => srcOf M1 d := Eq.trans rfl rfl
theorem ev_lst_t {G : Gl} {cl : Cl} {cu : Option (Nat × List (Str × D))} {e : Env} {M : Store} (a : E) : (ev G cl cu (.lst a)).t e M = ((ev G cl cu (.lst a)).e e M).bind fun d M1 => ofO (truD M1 d) M1 := Eq.trans rfl rfl
theorem ev_lst_c {G : Gl} {cl : Cl} {cu : Option (Nat × List (Str × D))} {e : Env} {M : Store} (a : E) : (ev G cl cu (.lst a)).c e M = ((ev G cl cu (.lst a)).e e M).bind fun d M1 => ofO (truD M1 d) M1 := Eq.trans rfl rfl
theorem ev_lst_p {G : Gl} {cl : Cl} {cu : Option (Nat × List (Str × D))} {e : Env} {M : Store} (a : E) : (ev G cl cu (.lst a)).p e M = ((ev G cl cu (.lst a)).e e M).bind fun d M1 => asInt M1 d := Eq.trans rfl rfl
theorem ev_lst_i {G : Gl} {cl : Cl} {cu : Option (Nat × List (Str × D))} {e : Env} {M : Store} (a : E) : (ev G cl cu (.lst a)).i e M = ((ev G cl cu (.lst a)).e e M).bind fun d M1 => srcOf M1 d := Eq.trans rfl rfl
theorem ev_idx_t {G : Gl} {cl : Cl} {cu : Option (Nat × List (Str × D))} {e : Env} {M : Store} (a b : E) : (ev G cl cu (.idx a b)).t e M = ((ev G cl cu (.idx a b)).e e M).bind fun d M1 => ofO (truD M1 d) M1 := Eq.trans rfl rfl
theorem ev_idx_c {G : Gl} {cl : Cl} {cu : Option (Nat × List (Str × D))} {e : Env} {M : Store} (a b : E) : (ev G cl cu (.idx a b)).c e M = ((ev G cl cu (.idx a b)).e e M).bind fun d M1 => ofO (truD M1 d) M1 := Eq.trans rfl rfl
theorem ev_idx_p {G : Gl} {cl : Cl} {cu : Option (Nat × List (Str × D))} {e : Env} {M : Store} (a b : E) : (ev G cl cu (.idx a b)).p e M = ((ev G cl cu (.idx a b)).e e M).bind fun d M1 => asInt M1 d := Eq.trans rfl rfl
theorem ev_idx_i {G : Gl} {cl : Cl} {cu : Option (Nat × List (Str × D))} {e : Env} {M : Store} (a b : E) : (ev G cl cu (.idx a b)).i e M = ((ev G cl cu (.idx a b)).e e M).bind fun d M1 => srcOf M1 d := Eq.trans rfl rfl
theorem ev_slc_t {G : Gl} {cl : Cl} {cu : Option (Nat × List (Str × D))} {e : Env} {M : Store} (a b c : E) : (ev G cl cu (.slc a b c)).t e M = ((ev G cl cu (.slc a b c)).e e M).bind fun d M1 => ofO (truD M1 d) M1 := Eq.trans rfl rfl
theorem ev_slc_c {G : Gl} {cl : Cl} {cu : Option (Nat × List (Str × D))} {e : Env} {M : Store} (a b c : E) : (ev G cl cu (.slc a b c)).c e M = ((ev G cl cu (.slc a b c)).e e M).bind fun d M1 => ofO (truD M1 d) M1 := Eq.trans rfl rfl
theorem ev_slc_p {G : Gl} {cl : Cl} {cu : Option (Nat × List (Str × D))} {e : Env} {M : Store} (a b c : E) : (ev G cl cu (.slc a b c)).p e M = ((ev G cl cu (.slc a b c)).e e M).bind fun d M1 => asInt M1 d := Eq.trans rfl rfl
theorem ev_slc_i {G : Gl} {cl : Cl} {cu : Option (Nat × List (Str × D))} {e : Env} {M : Store} (a b c : E) : (ev G cl cu (.slc a b c)).i e M = ((ev G cl cu (.slc a b c)).e e M).bind fun d M1 => srcOf M1 d := Eq.trans rfl rfl
theorem ev_fld_t {G : Gl} {cl : Cl} {cu : Option (Nat × List (Str × D))} {e : Env} {M : Store} (a : E) (f : Str) : (ev G cl cu (.fld a f)).t e M = ((ev G cl cu (.fld a f)).e e M).bind fun d M1 => ofO (truD M1 d) M1 := Eq.trans rfl rfl
theorem ev_fld_c {G : Gl} {cl : Cl} {cu : Option (Nat × List (Str × D))} {e : Env} {M : Store} (a : E) (f : Str) : (ev G cl cu (.fld a f)).c e M = ((ev G cl cu (.fld a f)).e e M).bind fun d M1 => ofO (truD M1 d) M1 := Eq.trans rfl rfl
theorem ev_fld_p {G : Gl} {cl : Cl} {cu : Option (Nat × List (Str × D))} {e : Env} {M : Store} (a : E) (f : Str) : (ev G cl cu (.fld a f)).p e M = ((ev G cl cu (.fld a f)).e e M).bind fun d M1 => asInt M1 d := Eq.trans rfl rfl
theorem ev_fld_i {G : Gl} {cl : Cl} {cu : Option (Nat × List (Str × D))} {e : Env} {M : Store} (a : E) (f : Str) : (ev G cl cu (.fld a f)).i e M = ((ev G cl cu (.fld a f)).e e M).bind fun d M1 => srcOf M1 d := Eq.trans rfl rfl
theorem ev_cal_t {G : Gl} {cl : Cl} {cu : Option (Nat × List (Str × D))} {e : Env} {M : Store} (f : Nat) (a : E) : (ev G cl cu (.cal f a)).t e M = ((ev G cl cu (.cal f a)).e e M).bind fun d M1 => ofO (truD M1 d) M1 := Eq.trans rfl rfl
theorem ev_cal_c {G : Gl} {cl : Cl} {cu : Option (Nat × List (Str × D))} {e : Env} {M : Store} (f : Nat) (a : E) : (ev G cl cu (.cal f a)).c e M = ((ev G cl cu (.cal f a)).e e M).bind fun d M1 => ofO (truD M1 d) M1 := Eq.trans rfl rfl
theorem ev_cal_p {G : Gl} {cl : Cl} {cu : Option (Nat × List (Str × D))} {e : Env} {M : Store} (f : Nat) (a : E) : (ev G cl cu (.cal f a)).p e M = ((ev G cl cu (.cal f a)).e e M).bind fun d M1 => asInt M1 d := Eq.trans rfl rfl
theorem ev_cal_i {G : Gl} {cl : Cl} {cu : Option (Nat × List (Str × D))} {e : Env} {M : Store} (f : Nat) (a : E) : (ev G cl cu (.cal f a)).i e M = ((ev G cl cu (.cal f a)).e e M).bind fun d M1 => srcOf M1 d := Eq.trans rfl rfl
theorem ev_mak_t {G : Gl} {cl : Cl} {cu : Option (Nat × List (Str × D))} {e : Env} {M : Store} (f : Nat) (a : E) : (ev G cl cu (.mak f a)).t e M = ((ev G cl cu (.mak f a)).e e M).bind fun d M1 => ofO (truD M1 d) M1 := Eq.trans rfl rfl
theorem ev_mak_c {G : Gl} {cl : Cl} {cu : Option (Nat × List (Str × D))} {e : Env} {M : Store} (f : Nat) (a : E) : (ev G cl cu (.mak f a)).c e M = ((ev G cl cu (.mak f a)).e e M).bind fun d M1 => ofO (truD M1 d) M1 := Eq.trans rfl rfl
theorem ev_mak_p {G : Gl} {cl : Cl} {cu : Option (Nat × List (Str × D))} {e : Env} {M : Store} (f : Nat) (a : E) : (ev G cl cu (.mak f a)).p e M = ((ev G cl cu (.mak f a)).e e M).bind fun d M1 => asInt M1 d := Eq.trans rfl rfl
theorem ev_mak_i {G : Gl} {cl : Cl} {cu : Option (Nat × List (Str × D))} {e : Env} {M : Store} (f : Nat) (a : E) : (ev G cl cu (.mak f a)).i e M = ((ev G cl cu (.mak f a)).e e M).bind fun d M1 => srcOf M1 d := Eq.trans rfl rfl
theorem ev_mth_t {G : Gl} {cl : Cl} {cu : Option (Nat × List (Str × D))} {e : Env} {M : Store} (a : E) (m : Nat) (b : E) : (ev G cl cu (.mth a m b)).t e M = ((ev G cl cu (.mth a m b)).e e M).bind fun d M1 => ofO (truD M1 d) M1 := Eq.trans rfl rfl
theorem ev_mth_c {G : Gl} {cl : Cl} {cu : Option (Nat × List (Str × D))} {e : Env} {M : Store} (a : E) (m : Nat) (b : E) : (ev G cl cu (.mth a m b)).c e M = ((ev G cl cu (.mth a m b)).e e M).bind fun d M1 => ofO (truD M1 d) M1 := Eq.trans rfl rfl
theorem ev_mth_p {G : Gl} {cl : Cl} {cu : Option (Nat × List (Str × D))} {e : Env} {M : Store} (a : E) (m : Nat) (b : E) : (ev G cl cu (.mth a m b)).p e M = ((ev G cl cu (.mth a m b)).e e M).bind fun d M1 => asInt M1 d := Eq.trans rfl rfl
theorem ev_mth_i {G : Gl} {cl : Cl} {cu : Option (Nat × List (Str × D))} {e : Env} {M : Store} (a : E) (m : Nat) (b : E) : (ev G cl cu (.mth a m b)).i e M = ((ev G cl cu (.mth a m b)).e e M).bind fun d M1 => srcOf M1 d := Eq.trans rfl rfl
theorem ev_bi_t {G : Gl} {cl : Cl} {cu : Option (Nat × List (Str × D))} {e : Env} {M : Store} (f : Bi) (a : E) : (ev G cl cu (.bi f a)).t e M = ((ev G cl cu (.bi f a)).e e M).bind fun d M1 => ofO (truD M1 d) M1 := Eq.trans rfl rfl
theorem ev_bi_c {G : Gl} {cl : Cl} {cu : Option (Nat × List (Str × D))} {e : Env} {M : Store} (f : Bi) (a : E) : (ev G cl cu (.bi f a)).c e M = ((ev G cl cu (.bi f a)).e e M).bind fun d M1 => ofO (truD M1 d) M1 := Eq.trans rfl rfl
theorem ev_bi_p {G : Gl} {cl : Cl} {cu : Option (Nat × List (Str × D))} {e : Env} {M : Store} (f : Bi) (a : E) : (ev G cl cu (.bi f a)).p e M = ((ev G cl cu (.bi f a)).e e M).bind fun d M1 => asInt M1 d := Eq.trans rfl rfl
theorem ev_bi_i {G : Gl} {cl : Cl} {cu : Option (Nat × List (Str × D))} {e : Env} {M : Store} (f : Bi) (a : E) : (ev G cl cu (.bi f a)).i e M = ((ev G cl cu (.bi f a)).e e M).bind fun d M1 => srcOf M1 d := Eq.trans rfl rfl
theorem ev_bm_t {G : Gl} {cl : Cl} {cu : Option (Nat × List (Str × D))} {e : Env} {M : Store} (m : Bm) (a b : E) : (ev G cl cu (.bm m a b)).t e M = ((ev G cl cu (.bm m a b)).e e M).bind fun d M1 => ofO (truD M1 d) M1 := Eq.trans rfl rfl
theorem ev_bm_c {G : Gl} {cl : Cl} {cu : Option (Nat × List (Str × D))} {e : Env} {M : Store} (m : Bm) (a b : E) : (ev G cl cu (.bm m a b)).c e M = ((ev G cl cu (.bm m a b)).e e M).bind fun d M1 => ofO (truD M1 d) M1 := Eq.trans rfl rfl
theorem ev_bm_p {G : Gl} {cl : Cl} {cu : Option (Nat × List (Str × D))} {e : Env} {M : Store} (m : Bm) (a b : E) : (ev G cl cu (.bm m a b)).p e M = ((ev G cl cu (.bm m a b)).e e M).bind fun d M1 => asInt M1 d := Eq.trans rfl rfl
theorem ev_bm_i {G : Gl} {cl : Cl} {cu : Option (Nat × List (Str × D))} {e : Env} {M : Store} (m : Bm) (a b : E) : (ev G cl cu (.bm m a b)).i e M = ((ev G cl cu (.bm m a b)).e e M).bind fun d M1 => srcOf M1 d := Eq.trans rfl rfl
theorem ev_isi_t {G : Gl} {cl : Cl} {cu : Option (Nat × List (Str × D))} {e : Env} {M : Store} (a : E) (t : Ty) : (ev G cl cu (.isi a t)).t e M = ((ev G cl cu (.isi a t)).e e M).bind fun d M1 => ofO (truD M1 d) M1 := Eq.trans rfl rfl
theorem ev_isi_c {G : Gl} {cl : Cl} {cu : Option (Nat × List (Str × D))} {e : Env} {M : Store} (a : E) (t : Ty) : (ev G cl cu (.isi a t)).c e M = ((ev G cl cu (.isi a t)).e e M).bind fun d M1 => ofO (truD M1 d) M1 := Eq.trans rfl rfl
theorem ev_isi_p {G : Gl} {cl : Cl} {cu : Option (Nat × List (Str × D))} {e : Env} {M : Store} (a : E) (t : Ty) : (ev G cl cu (.isi a t)).p e M = ((ev G cl cu (.isi a t)).e e M).bind fun d M1 => asInt M1 d := Eq.trans rfl rfl
theorem ev_isi_i {G : Gl} {cl : Cl} {cu : Option (Nat × List (Str × D))} {e : Env} {M : Store} (a : E) (t : Ty) : (ev G cl cu (.isi a t)).i e M = ((ev G cl cu (.isi a t)).e e M).bind fun d M1 => srcOf M1 d := Eq.trans rfl rfl
theorem ev_isx_t {G : Gl} {cl : Cl} {cu : Option (Nat × List (Str × D))} {e : Env} {M : Store} (c : Nat) : (ev G cl cu (.isx c)).t e M = ((ev G cl cu (.isx c)).e e M).bind fun d M1 => ofO (truD M1 d) M1 := Eq.trans rfl rfl
theorem ev_isx_c {G : Gl} {cl : Cl} {cu : Option (Nat × List (Str × D))} {e : Env} {M : Store} (c : Nat) : (ev G cl cu (.isx c)).c e M = ((ev G cl cu (.isx c)).e e M).bind fun d M1 => ofO (truD M1 d) M1 := Eq.trans rfl rfl
theorem ev_isx_p {G : Gl} {cl : Cl} {cu : Option (Nat × List (Str × D))} {e : Env} {M : Store} (c : Nat) : (ev G cl cu (.isx c)).p e M = ((ev G cl cu (.isx c)).e e M).bind fun d M1 => asInt M1 d := Eq.trans rfl rfl
theorem ev_isx_i {G : Gl} {cl : Cl} {cu : Option (Nat × List (Str × D))} {e : Env} {M : Store} (c : Nat) : (ev G cl cu (.isx c)).i e M = ((ev G cl cu (.isx c)).e e M).bind fun d M1 => srcOf M1 d := Eq.trans rfl rfl
theorem ev_xfd_t {G : Gl} {cl : Cl} {cu : Option (Nat × List (Str × D))} {e : Env} {M : Store} (f : Str) : (ev G cl cu (.xfd f)).t e M = ((ev G cl cu (.xfd f)).e e M).bind fun d M1 => ofO (truD M1 d) M1 := Eq.trans rfl rfl
theorem ev_xfd_c {G : Gl} {cl : Cl} {cu : Option (Nat × List (Str × D))} {e : Env} {M : Store} (f : Str) : (ev G cl cu (.xfd f)).c e M = ((ev G cl cu (.xfd f)).e e M).bind fun d M1 => ofO (truD M1 d) M1 := Eq.trans rfl rfl
theorem ev_xfd_p {G : Gl} {cl : Cl} {cu : Option (Nat × List (Str × D))} {e : Env} {M : Store} (f : Str) : (ev G cl cu (.xfd f)).p e M = ((ev G cl cu (.xfd f)).e e M).bind fun d M1 => asInt M1 d := Eq.trans rfl rfl
theorem ev_xfd_i {G : Gl} {cl : Cl} {cu : Option (Nat × List (Str × D))} {e : Env} {M : Store} (f : Str) : (ev G cl cu (.xfd f)).i e M = ((ev G cl cu (.xfd f)).e e M).bind fun d M1 => srcOf M1 d := Eq.trans rfl rfl
theorem ev_cmp1_t {G : Gl} {cl : Cl} {cu : Option (Nat × List (Str × D))} {e : Env} {M : Store} (x : E) (tg : List Nat) (sole : Bool) (own : List Nat) (a b : E) : (ev G cl cu (.cmp1 x tg sole own a b)).t e M = ((ev G cl cu (.cmp1 x tg sole own a b)).e e M).bind fun d M1 => ofO (truD M1 d) M1 := Eq.trans rfl rfl
theorem ev_cmp1_c {G : Gl} {cl : Cl} {cu : Option (Nat × List (Str × D))} {e : Env} {M : Store} (x : E) (tg : List Nat) (sole : Bool) (own : List Nat) (a b : E) : (ev G cl cu (.cmp1 x tg sole own a b)).c e M = ((ev G cl cu (.cmp1 x tg sole own a b)).e e M).bind fun d M1 => ofO (truD M1 d) M1 := Eq.trans rfl rfl
theorem ev_cmp1_p {G : Gl} {cl : Cl} {cu : Option (Nat × List (Str × D))} {e : Env} {M : Store} (x : E) (tg : List Nat) (sole : Bool) (own : List Nat) (a b : E) : (ev G cl cu (.cmp1 x tg sole own a b)).p e M = ((ev G cl cu (.cmp1 x tg sole own a b)).e e M).bind fun d M1 => asInt M1 d := Eq.trans rfl rfl
theorem ev_cmp1_i {G : Gl} {cl : Cl} {cu : Option (Nat × List (Str × D))} {e : Env} {M : Store} (x : E) (tg : List Nat) (sole : Bool) (own : List Nat) (a b : E) : (ev G cl cu (.cmp1 x tg sole own a b)).i e M = ((ev G cl cu (.cmp1 x tg sole own a b)).e e M).bind fun d M1 => srcOf M1 d := Eq.trans rfl rfl
/-- the other forms are tested by their value -/
def valF : E → Bool
  | .and _ _ => false | .or _ _ => false | .not _ => false | .ife _ _ _ => false | .nil => false | .cons _ _ => false | .rng _ => false | _ => true
section
variable {G : Gl} {cl : Cl} {cu : Option (Nat × List (Str × D))} {e : Env} {M : Store}
theorem ev_t {x : E} (h : valF x = true) : (ev G cl cu x).t e M = ((ev G cl cu x).e e M).bind fun d M1 => ofO (truD M1 d) M1 := by
  cases x <;> first | rfl | cases h
theorem ev_c {x : E} (h : valF x = true) : (ev G cl cu x).c e M = ((ev G cl cu x).e e M).bind fun d M1 => ofO (truD M1 d) M1 := by
  cases x <;> first | rfl | cases h
theorem ev_p {x : E} (h : valF x = true) : (ev G cl cu x).p e M = ((ev G cl cu x).e e M).bind fun d M1 => asInt M1 d := by
  cases x <;> first | rfl | cases h
theorem ev_i {x : E} (h : valF x = true) : (ev G cl cu x).i e M = ((ev G cl cu x).e e M).bind fun d M1 => srcOf M1 d := by
  cases x <;> first | rfl | cases h
end

theorem ofO_some {α : Type} (a : α) (M : Store) : ofO (some a) M = .ok a M := Eq.trans rfl rfl
theorem ofO_none {α : Type} (M : Store) : (ofO (none : Option α) M) = .bad := Eq.trans rfl rfl
theorem truD_bl (M : Store) (b : Bool) : truD M (.bl b) = some b := Eq.trans rfl rfl
theorem truD_int (M : Store) (i : Int) : truD M (.int i) = some (i != 0) := Eq.trans rfl rfl
theorem truD_non (M : Store) : truD M .non = some false := Eq.trans rfl rfl
theorem andE_tt (k : Store → Out D) (M : Store) : andE (.bl true) k M = k M := Eq.trans rfl rfl
theorem andE_ff (k : Store → Out D) (M : Store) : andE (.bl false) k M = .ok (.bl false) M := Eq.trans rfl rfl
theorem orE_tt (k : Store → Out D) (M : Store) : orE (.bl true) k M = .ok (.bl true) M := Eq.trans rfl rfl
theorem orE_ff (k : Store → Out D) (M : Store) : orE (.bl false) k M = k M := Eq.trans rfl rfl
/-! statements -/
section
variable {G : Gl} {cl : Cl} {cu : Option (Nat × List (Str × D))} {e : Env} {M : Store}
theorem ex_nil : exS G cl .nil cu e M = .nx e M := Eq.trans rfl rfl
theorem ex_cons (x y : S) : exS G cl (.cons x y) cu e M = (exS G cl x cu e M).andThen (exS G cl y cu) := Eq.trans rfl rfl
theorem ex_asg (t : T) (x : E) : exS G cl (.asg t x) cu e M = ((ev G cl cu x).e e M).run e fun v M1 => asgT G cl cu t v e M1 := Eq.trans rfl rfl
theorem ex_ex (x : E) : exS G cl (.ex x) cu e M = ((ev G cl cu x).e e M).run e fun _ M1 => .nx e M1 := Eq.trans rfl rfl
theorem ex_ret (x : E) : exS G cl (.ret x) cu e M = ((ev G cl cu x).e e M).run e fun v M1 => .rt v M1 := Eq.trans rfl rfl
theorem ex_retN : exS G cl .retN cu e M = .rt .non M := Eq.trans rfl rfl
theorem ex_pas : exS G cl .pas cu e M = .nx e M := Eq.trans rfl rfl
theorem ex_ite (c : E) (a b : S) : exS G cl (.ite c a b) cu e M = ((ev G cl cu c).t e M).run e fun t M1 => if t = true then exS G cl a cu e M1 else exS G cl b cu e M1 := Eq.trans rfl rfl
theorem ex_for (tg : List Nat) (sole : Bool) (it : E) (body : S) : exS G cl (.for_ tg sole it body) cu e M = ((ev G cl cu it).i e M).run e fun s M1 => forL s tg sole (exS G cl body cu) s.items e M1 := Eq.trans rfl rfl
theorem ex_whl (c : E) (body : S) : exS G cl (.whl c body) cu e M = whlL ((ev G cl cu c).t) (exS G cl body cu) 100000 e M := Eq.trans rfl rfl
theorem ex_rai (c : Nat) (es : E) : exS G cl (.rai c es) cu e M = ((ev G cl cu es).a e M).run e fun vs M1 => raiE G c vs e M1 := Eq.trans rfl rfl
theorem asg_nm (i : Nat) (v : D) : asgT G cl cu (.nm i) v e M = .nx (e.set i (some v)) M := Eq.trans rfl rfl
end
theorem asg_sub {G : Gl} {cl : Cl} {cu : Option (Nat × List (Str × D))} {e : Env} {M : Store} (o i : E) (v : D) : asgT G cl cu (.sub o i) v e M = ((ev G cl cu o).e e M).run e fun x M1 => ((ev G cl cu i).e e M1).run e fun y M2 => (setE M2 x y v).run e fun _ M3 => .nx e M3 := Eq.trans rfl rfl
theorem asg_att {G : Gl} {cl : Cl} {cu : Option (Nat × List (Str × D))} {e : Env} {M : Store} (o : E) (f : Str) (v : D) : asgT G cl cu (.att o f) v e M = ((ev G cl cu o).e e M).run e fun x M1 => (attE G M1 x f v).run e fun _ M2 => .nx e M2 := Eq.trans rfl rfl
/-! ### a call -/
theorem call_eq {G : Gl} {P : Nat → Option Def} {n f : Nat} {d : Def} {vs : List D} {M : Store} (h : P f = some d) (l : vs.length = d.np) : callN G P (n + 1) f vs M = (match exS G (callN G P n) d.body none (vs.map some ++ List.replicate (d.ns - vs.length) none) M with
        | .nx _ M1 => fin M .non M1
        | .rt v M1 => fin M v M1
        | .exc c fs _ M1 => if oldOk M M1 = true ∧ (fs.all fun kv => kv.2.und 0) = true then .exc c fs (M1.take M.length) else .bad
        | .bad => .bad) := by
  show (match P f with | some d => _ | none => _) = _
  rw [h]
  show (if vs.length = d.np then _ else _) = _
  rw [if_pos l] <;> rfl
end Dv
end

section
set_option Elab.async false
set_option autoImplicit false
set_option linter.all false
set_option maxRecDepth 100000
/-! DvU: what is wanted of the evaluator's ends. -/
namespace Dv
open PySem
abbrev Xn : Type := Nat → List (Str × D) → Store → Prop
def Wp {α : Type} (o : Out α) (Q : α → Store → Prop) (X : Xn) : Prop := match o with
  | .ok a M => Q a M
  | .exc c fs M => X c fs M
  | .bad => False
def Ws (r : Rs) (N : Env → Store → Prop) (R : D → Store → Prop) (X : Nat → List (Str × D) → Env → Store → Prop) : Prop := match r with
  | .nx e M => N e M
  | .rt d M => R d M
  | .exc c fs e M => X c fs e M
  | .bad => False
section
variable {α β : Type} {Q : β → Store → Prop} {X : Xn} {N : Env → Store → Prop} {R : D → Store → Prop} {XS : Nat → List (Str × D) → Env → Store → Prop} {e : Env} {M : Store}
theorem wp_ok (a : β) : Wp (.ok a M) Q X = Q a M := Eq.trans rfl rfl
theorem wp_exc (c : Nat) (fs : List (Str × D)) : Wp (.exc c fs M : Out β) Q X = X c fs M := Eq.trans rfl rfl
theorem wp_bad : Wp (.bad : Out β) Q X = False := Eq.trans rfl rfl
theorem wp_bind (o : Out α) (f : α → Store → Out β) : Wp (o.bind f) Q X = Wp o (fun a M => Wp (f a M) Q X) X := by cases o <;> rfl
theorem wp_if (c : Prop) [Decidable c] (a b : Out β) : Wp (if c then a else b) Q X = if c then Wp a Q X else Wp b Q X := by by_cases h : c <;> simp [h]
theorem wp_nox (o : Out β) : Wp o.nox Q X = Wp o Q (fun _ _ _ => False) := by cases o <;> rfl
theorem wp_ofO (o : Option β) : Wp (ofO o M) Q X = ∃ a, o = some a ∧ Q a M := by cases o <;> simp [ofO, Wp]
theorem ws_nx : Ws (.nx e M) N R XS = N e M := Eq.trans rfl rfl
theorem ws_rt (d : D) : Ws (.rt d M) N R XS = R d M := Eq.trans rfl rfl
theorem ws_exc (c : Nat) (fs : List (Str × D)) : Ws (.exc c fs e M) N R XS = XS c fs e M := Eq.trans rfl rfl
theorem ws_bad : Ws .bad N R XS = False := Eq.trans rfl rfl
theorem ws_run (o : Out α) (f : α → Store → Rs) : Ws (o.run e f) N R XS = Wp o (fun a M => Ws (f a M) N R XS) (fun c fs M => XS c fs e M) := by cases o <;> rfl
theorem ws_then (r : Rs) (f : Env → Store → Rs) : Ws (r.andThen f) N R XS = Ws r (fun e M => Ws (f e M) N R XS) R XS := by cases r <;> rfl
theorem ws_if (c : Prop) [Decidable c] (a b : Rs) : Ws (if c then a else b) N R XS = if c then Ws a N R XS else Ws b N R XS := by by_cases h : c <;> simp [h]
theorem Wp.mono {o : Out β} {Q' : β → Store → Prop} {X' : Xn} (h : Wp o Q X) (hq : ∀ a M, Q a M → Q' a M) (hx : ∀ c fs M, X c fs M → X' c fs M) : Wp o Q' X' := by
  cases o with
  | ok a M => exact hq a M h
  | exc c fs M => exact hx c fs M h
  | bad => exact h
theorem Ws.mono {r : Rs} {N' : Env → Store → Prop} {R' : D → Store → Prop} {XS' : Nat → List (Str × D) → Env → Store → Prop} (h : Ws r N R XS) (hn : ∀ e M, N e M → N' e M) (hr : ∀ d M, R d M → R' d M) (hx : ∀ c fs e M, XS c fs e M → XS' c fs e M) : Ws r N' R' XS' := by
  cases r with
  | nx e M => exact hn e M h
  | rt d M => exact hr d M h
  | exc c fs e M => exact hx c fs e M h
  | bad => exact h
theorem ws_cons {G : Gl} {cl : Cl} {cu : Option (Nat × List (Str × D))} (x y : S) : Ws (exS G cl (.cons x y) cu e M) N R XS = Ws (exS G cl x cu e M) (fun e M => Ws (exS G cl y cu e M) N R XS) R XS := by
  rw [ex_cons, ws_then]
theorem ws_tri {G : Gl} {cl : Cl} {cu : Option (Nat × List (Str × D))} (body suite : S) (c : Nat) (nm : Option Nat) : Ws (exS G cl (.tri body c nm suite) cu e M) N R XS =
    Ws (exS G cl body cu e M) N R (fun k fs e1 M1 => if G.isc k = true then (if G.sub k c = true then Ws (exS G cl suite (match nm with | some _ => some (k, fs) | none => none) (match nm with | some i => e1.set i none | none => e1) M1) (fun e2 M2 => N (match nm with | some i => e2.set i none | none => e2) M2) R (fun _ _ _ _ => False) else XS k fs e1 M1) else False) := by
  show Ws (match exS G cl body cu e M with
    | .exc k fs e1 M1 => if G.isc k = true then
        if G.sub k c = true then endTry nm (exS G cl suite (match nm with | some _ => some (k, fs) | none => none) (match nm with | some i => e1.set i none | none => e1) M1) else .exc k fs e1 M1
      else .bad
    | r => r) N R XS = _
  cases exS G cl body cu e M with
  | nx e M => rfl
  | rt d M => rfl
  | bad => rfl
  | exc k fs e1 M1 =>
    show Ws (if _ then _ else _) N R XS = if _ then _ else _
    by_cases h1 : G.isc k = true
    · rw [if_pos h1, if_pos h1]
      by_cases h2 : G.sub k c = true
      · rw [if_pos h2, if_pos h2]
        cases exS G cl suite (match nm with | some _ => some (k, fs) | none => none) (match nm with | some i => e1.set i none | none => e1) M1 <;> rfl
      · rw [if_neg h2, if_neg h2]
        rfl
    · rw [if_neg h1, if_neg h1]
      rfl
theorem isx_eq {G : Gl} {k c : Nat} (h : G.isc c = true) : isxE G (some (k, [])) c M = .ok (.bl (G.sub k c)) M := by
  show (if G.isc c = true then _ else _) = _
  rw [if_pos h]
/-- a for: the invariant by the turn -/
theorem ws_for {s : Src} {tg : List Nat} {sole : Bool} {body : Env → Store → Rs} {xs : List D} (I : Nat → Env → Store → Prop) (h0 : I 0 e M)
    (hs : ∀ i x e M, xs[i]? = some x → I i e M → s.stands M = true ∧ ∃ e', bindT tg sole x e = some e' ∧ Ws (body e' M) (I (i + 1)) R XS) (he : ∀ e M, I xs.length e M → s.stands M = true ∧ N e M) : Ws (forL s tg sole body xs e M) N R XS := by
  induction xs generalizing I e M with
  | nil =>
    obtain ⟨h1, h2⟩ := he e M h0
    unfold forL
    rw [if_pos h1]
    exact h2
  | cons x r ih =>
    obtain ⟨h1, e', h2, h3⟩ := hs 0 x e M rfl h0
    unfold forL
    rw [if_pos h1, h2]
    show Ws ((body e' M).andThen _) N R XS
    rw [ws_then]
    exact h3.mono (fun e M h => ih (fun i => I (i + 1)) h (fun i y e M hy hi => hs (i + 1) y e M hy hi) fun e M hi => he e M hi) (fun _ _ h => h) fun _ _ _ _ h => h
/-- a comprehension -/
theorem wp_comp {s : Src} {tg : List Nat} {sole : Bool} {tt : Env → Store → Out Bool} {te : Env → Store → Out D} {xs acc : List D} {Q : List D → Store → Prop} (I : Nat → List D → Store → Prop) (h0 : I 0 acc M)
    (hs : ∀ i x acc M, xs[i]? = some x → I i acc M → s.stands M = true ∧ ∃ e', bindT tg sole x e = some e' ∧ Wp (tt e' M) (fun b M1 => if b = true then Wp (te e' M1) (fun d M2 => acc.length < sizeLine ∧ I (i + 1) (acc ++ [d]) M2) (fun _ _ _ => False) else I (i + 1) acc M1) (fun _ _ _ => False))
    (he : ∀ acc M, I xs.length acc M → s.stands M = true ∧ Q acc M) : Wp (compL s tg sole e tt te xs acc M) Q X := by
  induction xs generalizing I acc M with
  | nil =>
    obtain ⟨h1, h2⟩ := he acc M h0
    unfold compL
    rw [if_pos h1]
    exact h2
  | cons x r ih =>
    obtain ⟨h1, e', h2, h3⟩ := hs 0 x acc M rfl h0
    unfold compL
    rw [if_pos h1, h2]
    show Wp (((tt e' M).nox).bind _) Q X
    rw [wp_bind, wp_nox]
    have h3 := h3
    revert h3
    cases tt e' M with
    | bad => exact fun h => h
    | exc c fs M => exact fun h => h
    | ok b M1 =>
      intro h3
      have h3 : if b = true then Wp (te e' M1) (fun d M2 => acc.length < sizeLine ∧ I 1 (acc ++ [d]) M2) (fun _ _ _ => False) else I 1 acc M1 := h3
      show Wp (if b = true then _ else _) Q X
      cases b with
      | false => exact ih (fun i => I (i + 1)) h3 (fun i y acc M hy hi => hs (i + 1) y acc M hy hi) fun acc M hi => he acc M hi
      | true =>
        have h3 : Wp (te e' M1) (fun d M2 => acc.length < sizeLine ∧ I 1 (acc ++ [d]) M2) (fun _ _ _ => False) := h3
        show Wp (((te e' M1).nox).bind _) Q X
        rw [wp_bind, wp_nox]
        revert h3
        cases te e' M1 with
        | bad => exact fun h => h
        | exc c fs M => exact fun h => h
        | ok d M2 =>
          intro h3
          show Wp (if acc.length < sizeLine then _ else _) Q X
          rw [if_pos h3.1]
          exact ih (fun i => I (i + 1)) h3.2 (fun i y acc M hy hi => hs (i + 1) y acc M hy hi) fun acc M hi => he acc M hi
end
/-! ### a call's end -/
open Classical in
theorem oldOk_app (M l : Store) : oldOk M (M ++ l) = true := by
  unfold oldOk
  refine decide_eq_true ⟨by simp, fun i o hi h => .inl ?_⟩
  rw [List.getElem?_append_left hi] at h
  exact h
mutual
theorem und_locs (n : Nat) : ∀ d : D, d.und 0 = true → d.locs n = []
  | .non, _ => rfl
  | .bl _, _ => rfl
  | .int _, _ => rfl
  | .str _, _ => rfl
  | .loc k, h => by simp [D.und] at h
  | .rol _, _ => rfl
  | .ktp _, _ => rfl
  | .tup ds, h => by
    simp only [D.locs]
    exact undL_locs n ds (by simpa [D.und] using h)
theorem undL_locs (n : Nat) : ∀ ds : List D, undL 0 ds = true → locsL n ds = []
  | [], _ => rfl
  | d :: ds, h => by
    obtain ⟨h1, h2⟩ := Bool.and_eq_true_iff.mp (show (d.und 0 && undL 0 ds) = true from h)
    simp only [locsL, und_locs n d h1, undL_locs n ds h2, List.append_nil]
end
mutual
theorem und_ren (f : Nat → Nat) : ∀ d : D, d.und 0 = true → d.ren f = d
  | .non, _ => rfl
  | .bl _, _ => rfl
  | .int _, _ => rfl
  | .str _, _ => rfl
  | .loc k, h => by simp [D.und] at h
  | .rol _, _ => rfl
  | .ktp _, _ => rfl
  | .tup ds, h => by
    simp only [D.ren]
    rw [undL_ren f ds (by simpa [D.und] using h)]
theorem undL_ren (f : Nat → Nat) : ∀ ds : List D, undL 0 ds = true → renL f ds = ds
  | [], _ => rfl
  | d :: ds, h => by
    obtain ⟨h1, h2⟩ := Bool.and_eq_true_iff.mp (show (d.und 0 && undL 0 ds) = true from h)
    simp only [renL, und_ren f d h1, undL_ren f ds h2]
end
theorem grow_nil (n : Nat) (M : Store) : grow n M [] = [] := Eq.trans rfl rfl
/-- a value without places -/
theorem fin_flat {M l : Store} {d : D} (h : d.und 0 = true) : fin M d (M ++ l) = .ok d M := by
  unfold fin
  rw [if_pos (oldOk_app M l), und_locs _ d h]
  have e : grow M.length (M ++ l) (grow M.length (M ++ l) ([] : List Nat)) = [] := rfl
  simp [e, keepsR, und_ren _ d h]
theorem fin_flat0 {M : Store} {d : D} (h : d.und 0 = true) : fin M d M = .ok d M := by
  have := fin_flat (M := M) (l := []) h
  rwa [List.append_nil] at this
/-- a new list of values without places -/
theorem fin_list {M l : Store} {k : Nat} {xs : List D} (hk : l[k]? = some (.lst xs)) (h : undL 0 xs = true) : fin M (.loc (M.length + k)) (M ++ l) = .ok (.loc M.length) (M ++ [.lst xs]) := by
  have g : (M ++ l)[M.length + k]? = some (.lst xs) := by
    rw [List.getElem?_append_right (by omega), Nat.add_sub_cancel_left]
    exact hk
  have e1 : (D.loc (M.length + k)).locs M.length = [M.length + k] := by simp [D.locs]
  have e2 : grow M.length (M ++ l) [M.length + k] = [M.length + k] := by
    unfold grow
    simp only [List.flatMap_cons, List.flatMap_nil, g, Ob.locs, undL_locs _ xs h, List.append_nil]
    rfl
  unfold fin
  rw [if_pos (oldOk_app M l), e1]
  show (if (keepsR M.length (M ++ l) (grow _ _ (grow _ _ ([M.length + k].eraseDups))) && _) = true then _ else _) = _
  rw [show [M.length + k].eraseDups = [M.length + k] from rfl, e2, e2]
  have e3 : renF M.length [M.length + k] (M.length + k) = M.length := by
    unfold renF
    rw [if_neg (by omega)]
    simp
  simp [keepsR, g, Ob.locs, undL_locs _ xs h, Ob.ren, undL_ren _ xs h, D.ren, e3]
theorem undL_ints (xs : List Int) : undL 0 (xs.map D.int) = true := by
  induction xs with
  | nil => rfl
  | cons x r ih => exact Bool.and_eq_true_iff.mpr ⟨rfl, ih⟩
/-! ### reading a store -/
theorem get_new (M : Store) (l : Store) (k : Nat) : (M ++ l)[M.length + k]? = l[k]? := by
  rw [List.getElem?_append_right (by omega), Nat.add_sub_cancel_left]
theorem get_new0 (M : Store) (l : Store) : (M ++ l)[M.length]? = l[0]? := get_new M l 0
theorem set_new (M : Store) (l : Store) (k : Nat) (o : Ob) : (M ++ l).set (M.length + k) o = M ++ l.set k o := by
  rw [List.set_append_right _ _ (by omega), Nat.add_sub_cancel_left]
theorem set_new0 (M : Store) (l : Store) (o : Ob) : (M ++ l).set M.length o = M ++ l.set 0 o := set_new M l 0 o
theorem get_old {M l : Store} {n : Nat} {o : Ob} (h : M[n]? = some o) : (M ++ l)[n]? = some o := by
  rw [List.getElem?_append_left (List.getElem?_eq_some_iff.mp h).1]
  exact h
theorem lstAt_eq {M : Store} {n : Nat} {xs : List D} : lstAt M n = some xs ↔ M[n]? = some (.lst xs) := by
  unfold lstAt
  constructor
  · intro h
    split at h
    · rename_i ys e
      cases h
      exact e
    · cases h
  · intro h
    rw [h]
open Classical in
theorem stands_its (xs : List D) (M : Store) : (Src.its xs).stands M = true := Eq.trans rfl rfl
open Classical in
theorem stands_lst {n : Nat} {xs : List D} {M : Store} (h : M[n]? = some (.lst xs)) : (Src.lst n xs).stands M = true := by
  unfold Src.stands
  exact decide_eq_true h
theorem mir_of {o : Out D} (h : Wp o (fun d _ => d = .bl true) (fun _ _ _ => False)) : ∃ M, o = .ok (.bl true) M := by
  cases o with
  | ok d M =>
    obtain rfl : d = .bl true := h
    exact ⟨M, rfl⟩
  | exc c fs M => exact (show False from h).elim
  | bad => exact (show False from h).elim
theorem sizeLine_val : sizeLine = 16777216 := PySem.sizeLine_eq
end Dv
end

section
set_option Elab.async false
set_option autoImplicit false
set_option linter.all false
set_option maxRecDepth 100000
set_option maxHeartbeats 1000000
/-! DvV: more that helps to compute; the first defs. -/
namespace Dv
open PySem L2
/-! ### slots -/
theorem varE_z (a : D) (e : Env) (M : Store) : varE 0 (some a :: e) M = .ok a M := Eq.trans rfl rfl
theorem varE_s (i : Nat) (a : Option D) (e : Env) (M : Store) : varE (i + 1) (a :: e) M = varE i e M := Eq.trans rfl rfl
theorem wipeD_nil (e : Env) : wipeD e [] = e := Eq.trans rfl rfl
theorem wipeD_cons (e : Env) (v : Nat) (vs : List Nat) : wipeD e (v :: vs) = (wipeD e vs).set v none := Eq.trans rfl rfl
theorem bindT_one (i : Nat) (d : D) (e : Env) : bindT [i] true d e = some (e.set i (some d)) := Eq.trans rfl rfl
/-! ### operators -/
section
variable {M : Store}
theorem bin_add (i j : Int) : binE .add M (.int i) (.int j) = .ok (.int (i + j)) M := Eq.trans rfl rfl
theorem bin_sub (i j : Int) : binE .sub M (.int i) (.int j) = .ok (.int (i - j)) M := Eq.trans rfl rfl
theorem bin_mul (i j : Int) : binE .mul M (.int i) (.int j) = if (-18446744073709551616 < i ∧ i < 18446744073709551616) ∨ (-18446744073709551616 < j ∧ j < 18446744073709551616) ∨ i.natAbs.log2 + j.natAbs.log2 < 1000000 then .ok (.int (i * j)) M else .bad := Eq.trans rfl rfl
theorem bin_fdiv (i j : Int) : binE .fdiv M (.int i) (.int j) = if 0 < j ∧ j < 18446744073709551616 then .ok (.int (i / j)) M else .bad := Eq.trans rfl rfl
theorem bin_mod (i j : Int) : binE .mod M (.int i) (.int j) = if 0 < j then .ok (.int (i % j)) M else .bad := Eq.trans rfl rfl
theorem bin_pow (i j : Int) : binE .pow M (.int i) (.int j) = if 0 ≤ j ∧ j ≤ 1000000 ∧ -18446744073709551616 < i ∧ i < 18446744073709551616 then .ok (.int (i ^ j.toNat)) M else .bad := Eq.trans rfl rfl
theorem neg_int (i : Int) : negE M (.int i) = .ok (.int (-i)) M := Eq.trans rfl rfl
theorem cmp_lt (i j : Int) : cmpE .lt M (.int i) (.int j) = some (decide (i < j)) := Eq.trans rfl rfl
theorem cmp_le (i j : Int) : cmpE .le M (.int i) (.int j) = some (decide (i ≤ j)) := Eq.trans rfl rfl
theorem cmp_gt (i j : Int) : cmpE .gt M (.int i) (.int j) = some (decide (j < i)) := Eq.trans rfl rfl
theorem cmp_ge (i j : Int) : cmpE .ge M (.int i) (.int j) = some (decide (j ≤ i)) := Eq.trans rfl rfl
theorem cmp_eq (i j : Int) : cmpE .eq M (.int i) (.int j) = some (decide (i = j)) := by
  show some (i == j) = some (decide (i = j))
  congr 1
theorem cmp_ne (i j : Int) : cmpE .ne M (.int i) (.int j) = some (!decide (i = j)) := by
  show some (!(i == j)) = some (!decide (i = j))
  congr 1
theorem len_rol (xs : List Int) : biE .len M [.rol xs] = .ok (.int xs.length) M := by
  show Out.ok (D.int (xs.map D.int).length) M = _
  rw [List.length_map]
theorem len_loc {n : Nat} {xs : List D} (h : M[n]? = some (.lst xs)) : biE .len M [.loc n] = .ok (.int xs.length) M := by
  show (match lstAt M n with | some xs => Out.ok (D.int xs.length) M | none => .bad) = _
  rw [lstAt_eq.mpr h]
theorem abs_int (i : Int) : biE .abs M [.int i] = .ok (.int (if i < 0 then -i else i)) M := Eq.trans rfl rfl
theorem int_int (i : Int) : biE .int M [.int i] = .ok (.int i) M := Eq.trans rfl rfl
theorem rng1 (n : Int) : rngOf M [.int n] = if -4611686018427387904 ≤ n ∧ n < 4611686018427387904 then .ok (.its ((List.range n.toNat).map fun i => .int (i : Nat))) M else .bad := Eq.trans rfl rfl
theorem its_items (xs : List D) : (Src.its xs).items = xs := Eq.trans rfl rfl
theorem lst_items (n : Nat) (xs : List D) : (Src.lst n xs).items = xs := Eq.trans rfl rfl
theorem app_new (M0 : Store) (xs : List D) (x : D) (h : xs.length < sizeLine) : bmE .append (M0 ++ [.lst xs]) (.loc M0.length) [x] = .ok .non (M0 ++ [.lst (xs ++ [x])]) := by
  show (match (M0 ++ [Ob.lst xs])[M0.length]? with | some (.lst xs) => _ | _ => _) = _
  rw [get_new0]
  show (if xs.length < sizeLine then _ else _) = _
  rw [if_pos h, set_new0]
  rfl
theorem appTy_new (M0 : Store) (xs : List D) : bmTy .append (M0 ++ [.lst xs]) (.loc M0.length) = true := by
  show (lstAt (M0 ++ [Ob.lst xs]) M0.length).isSome = true
  rw [lstAt_eq.mpr (get_new0 M0 [.lst xs])]
  rfl
theorem range_get {n i : Nat} {x : D} (h : ((List.range n).map fun (i : Nat) => D.int (i : Int))[i]? = some x) : i < n ∧ x = .int i := by
  rw [List.getElem?_map] at h
  cases q : (List.range n)[i]? with
  | none => rw [q] at h; cases h
  | some j =>
    rw [q] at h
    cases h
    obtain ⟨h1, h2⟩ := List.getElem?_eq_some_iff.mp q
    rw [List.getElem_range] at h2
    rw [List.length_range] at h1
    subst h2
    exact ⟨h1, rfl⟩
theorem range_len (n : Nat) : ((List.range n).map fun (i : Nat) => D.int (i : Int)).length = n := by simp
end
/-! ### calls -/
theorem wp_call {G : Gl} {P : Nat → Option Def} {n f : Nat} {d : Def} {vs : List D} {M : Store} {Q : D → Store → Prop} {X : Xn} (h : P f = some d) (l : vs.length = d.np)
    (w : Ws (exS G (callN G P n) d.body none (vs.map some ++ List.replicate (d.ns - vs.length) none) M) (fun _ M1 => Wp (fin M .non M1) Q X) (fun v M1 => Wp (fin M v M1) Q X) (fun c fs _ M1 => oldOk M M1 = true ∧ (fs.all fun kv => kv.2.und 0) = true ∧ X c fs (M1.take M.length))) : Wp (callN G P (n + 1) f vs M) Q X := by
  rw [call_eq h l]
  revert w
  cases exS G (callN G P n) d.body none (vs.map some ++ List.replicate (d.ns - vs.length) none) M with
  | nx e M1 => exact fun w => w
  | rt v M1 => exact fun w => w
  | bad => exact fun w => w
  | exc c fs e M1 =>
    intro w
    obtain ⟨w1, w2, w3⟩ := w
    show Wp (if _ then _ else _) Q X
    rw [if_pos ⟨w1, w2⟩]
    exact w3
local macro_rules | `(tactic| walk_at "dv") => `(tactic| simp only [ev_nil_a, ev_nil_p, ev_nil_c, ev_cons_a, ev_rng_i, ev_var, ev_non, ev_bl, ev_int, ev_str, ev_glb, ev_bin, ev_neg, ev_cmp, ev_chn, ev_and, ev_or, ev_not, ev_ife, ev_tup, ev_lst, ev_dnl, ev_idx, ev_slc, ev_fld, ev_cal, ev_mak, ev_mth, ev_bi, ev_bm, ev_isi, ev_isx, ev_xfd, ev_cmp1, ev_and_t, ev_or_t, ev_not_t, ev_and_c, ev_or_c, ev_not_c, ev_var_t, ev_var_c, ev_var_p, ev_var_i, ev_non_t, ev_non_c, ev_non_p, ev_non_i, ev_bl_t, ev_bl_c, ev_bl_p, ev_bl_i, ev_int_t, ev_int_c, ev_int_p, ev_int_i, ev_str_t, ev_str_c, ev_str_p, ev_str_i, ev_glb_t, ev_glb_c, ev_glb_p, ev_glb_i, ev_bin_t, ev_bin_c, ev_bin_p, ev_bin_i, ev_neg_t, ev_neg_c, ev_neg_p, ev_neg_i, ev_cmp_t, ev_cmp_c, ev_cmp_p, ev_cmp_i, ev_chn_t, ev_chn_c, ev_chn_p, ev_chn_i, ev_tup_t, ev_tup_c, ev_tup_p, ev_tup_i, ev_lst_t, ev_lst_c, ev_lst_p, ev_lst_i, ev_idx_t, ev_idx_c, ev_idx_p, ev_idx_i, ev_slc_t, ev_slc_c, ev_slc_p, ev_slc_i, ev_fld_t, ev_fld_c, ev_fld_p, ev_fld_i, ev_cal_t, ev_cal_c, ev_cal_p, ev_cal_i, ev_mak_t, ev_mak_c, ev_mak_p, ev_mak_i, ev_mth_t, ev_mth_c, ev_mth_p, ev_mth_i, ev_bi_t, ev_bi_c, ev_bi_p, ev_bi_i, ev_bm_t, ev_bm_c, ev_bm_p, ev_bm_i, ev_isi_t, ev_isi_c, ev_isi_p, ev_isi_i, ev_isx_t, ev_isx_c, ev_isx_p, ev_isx_i, ev_xfd_t, ev_xfd_c, ev_xfd_p, ev_xfd_i, ev_cmp1_t, ev_cmp1_c, ev_cmp1_p, ev_cmp1_i, ofO_some, ofO_none, truD_bl, truD_int, truD_non, andE_tt, andE_ff, orE_tt, orE_ff, ex_nil, ex_cons, ex_asg, ex_ex, ex_ret, ex_retN, ex_pas, ex_ite, ex_for, ex_whl, ex_rai, asg_nm, asg_sub, asg_att, wp_ok, wp_exc, wp_bad, wp_bind, wp_if, wp_nox, wp_ofO, ws_tri, ws_nx, ws_rt, ws_exc, ws_bad, ws_run, ws_then, ws_if, varE_z, varE_s, wipeD_nil, wipeD_cons, bindT_one, bin_add, bin_sub, bin_mul, bin_fdiv, bin_mod, bin_pow, neg_int, cmp_lt, cmp_le, cmp_gt, cmp_ge, cmp_eq, cmp_ne, len_rol, int_int, abs_int, rng1, its_items, lst_items, List.map_cons, List.map_nil, List.replicate_succ, List.replicate_zero, List.cons_append, List.nil_append, List.set_cons_zero, List.set_cons_succ, List.length_cons, List.length_nil, Option.some.injEq, exists_eq_left', decide_eq_true_eq, Nat.reducePow, Int.reducePow, Nat.reduceLT, Nat.reduceLeDiff, Int.reduceLT, Int.reduceLE, Int.reduceNeg, Int.reduceToNat, true_or, or_true, true_and, and_true, if_true, if_false, Bool.false_eq_true, Bool.not_true, Bool.not_false, Bool.not_eq_true', Bool.true_eq_false, reduceCtorEq, decide_eq_false_iff_not, not_true, not_false_iff, Nat.reduceAdd, Nat.reduceSub])
local macro_rules | `(tactic| walk_at "dvh") => `(tactic| simp only [ev_nil_a, ev_nil_p, ev_nil_c, ev_cons_a, ev_rng_i, ev_var, ev_non, ev_bl, ev_int, ev_str, ev_glb, ev_bin, ev_neg, ev_cmp, ev_chn, ev_and, ev_or, ev_not, ev_ife, ev_tup, ev_lst, ev_dnl, ev_idx, ev_slc, ev_fld, ev_cal, ev_mak, ev_mth, ev_bi, ev_bm, ev_isi, ev_isx, ev_xfd, ev_cmp1, ev_and_t, ev_or_t, ev_not_t, ev_and_c, ev_or_c, ev_not_c, ev_var_t, ev_var_c, ev_var_p, ev_var_i, ev_non_t, ev_non_c, ev_non_p, ev_non_i, ev_bl_t, ev_bl_c, ev_bl_p, ev_bl_i, ev_int_t, ev_int_c, ev_int_p, ev_int_i, ev_str_t, ev_str_c, ev_str_p, ev_str_i, ev_glb_t, ev_glb_c, ev_glb_p, ev_glb_i, ev_bin_t, ev_bin_c, ev_bin_p, ev_bin_i, ev_neg_t, ev_neg_c, ev_neg_p, ev_neg_i, ev_cmp_t, ev_cmp_c, ev_cmp_p, ev_cmp_i, ev_chn_t, ev_chn_c, ev_chn_p, ev_chn_i, ev_tup_t, ev_tup_c, ev_tup_p, ev_tup_i, ev_lst_t, ev_lst_c, ev_lst_p, ev_lst_i, ev_idx_t, ev_idx_c, ev_idx_p, ev_idx_i, ev_slc_t, ev_slc_c, ev_slc_p, ev_slc_i, ev_fld_t, ev_fld_c, ev_fld_p, ev_fld_i, ev_cal_t, ev_cal_c, ev_cal_p, ev_cal_i, ev_mak_t, ev_mak_c, ev_mak_p, ev_mak_i, ev_mth_t, ev_mth_c, ev_mth_p, ev_mth_i, ev_bi_t, ev_bi_c, ev_bi_p, ev_bi_i, ev_bm_t, ev_bm_c, ev_bm_p, ev_bm_i, ev_isi_t, ev_isi_c, ev_isi_p, ev_isi_i, ev_isx_t, ev_isx_c, ev_isx_p, ev_isx_i, ev_xfd_t, ev_xfd_c, ev_xfd_p, ev_xfd_i, ev_cmp1_t, ev_cmp1_c, ev_cmp1_p, ev_cmp1_i, ofO_some, ofO_none, truD_bl, truD_int, truD_non, andE_tt, andE_ff, orE_tt, orE_ff, ex_nil, ex_cons, ex_asg, ex_ex, ex_ret, ex_retN, ex_pas, ex_ite, ex_for, ex_whl, ex_rai, asg_nm, asg_sub, asg_att, wp_ok, wp_exc, wp_bad, wp_bind, wp_if, wp_nox, wp_ofO, ws_tri, ws_nx, ws_rt, ws_exc, ws_bad, ws_run, ws_then, ws_if, varE_z, varE_s, wipeD_nil, wipeD_cons, bindT_one, bin_add, bin_sub, bin_mul, bin_fdiv, bin_mod, bin_pow, neg_int, cmp_lt, cmp_le, cmp_gt, cmp_ge, cmp_eq, cmp_ne, len_rol, int_int, abs_int, rng1, its_items, lst_items, List.map_cons, List.map_nil, List.replicate_succ, List.replicate_zero, List.cons_append, List.nil_append, List.set_cons_zero, List.set_cons_succ, List.length_cons, List.length_nil, Option.some.injEq, exists_eq_left', decide_eq_true_eq, Nat.reducePow, Int.reducePow, Nat.reduceLT, Nat.reduceLeDiff, Int.reduceLT, Int.reduceLE, Int.reduceNeg, Int.reduceToNat, true_or, or_true, true_and, and_true, if_true, if_false, Bool.false_eq_true, Bool.not_true, Bool.not_false, Bool.not_eq_true', Bool.true_eq_false, reduceCtorEq, decide_eq_false_iff_not, not_true, not_false_iff, Nat.reduceAdd, Nat.reduceSub, *])
local macro_rules | `(tactic| walk_at "st") => `(tactic| simp only [ev_nil_a, ev_nil_p, ev_nil_c, ev_cons_a, ev_rng_i, ev_var, ev_non, ev_bl, ev_int, ev_str, ev_glb, ev_bin, ev_neg, ev_cmp, ev_chn, ev_and, ev_or, ev_not, ev_ife, ev_tup, ev_lst, ev_dnl, ev_idx, ev_slc, ev_fld, ev_cal, ev_mak, ev_mth, ev_bi, ev_bm, ev_isi, ev_isx, ev_xfd, ev_cmp1, ev_and_t, ev_or_t, ev_not_t, ev_and_c, ev_or_c, ev_not_c, ev_var_t, ev_var_c, ev_var_p, ev_var_i, ev_non_t, ev_non_c, ev_non_p, ev_non_i, ev_bl_t, ev_bl_c, ev_bl_p, ev_bl_i, ev_int_t, ev_int_c, ev_int_p, ev_int_i, ev_str_t, ev_str_c, ev_str_p, ev_str_i, ev_glb_t, ev_glb_c, ev_glb_p, ev_glb_i, ev_bin_t, ev_bin_c, ev_bin_p, ev_bin_i, ev_neg_t, ev_neg_c, ev_neg_p, ev_neg_i, ev_cmp_t, ev_cmp_c, ev_cmp_p, ev_cmp_i, ev_chn_t, ev_chn_c, ev_chn_p, ev_chn_i, ev_tup_t, ev_tup_c, ev_tup_p, ev_tup_i, ev_lst_t, ev_lst_c, ev_lst_p, ev_lst_i, ev_idx_t, ev_idx_c, ev_idx_p, ev_idx_i, ev_slc_t, ev_slc_c, ev_slc_p, ev_slc_i, ev_fld_t, ev_fld_c, ev_fld_p, ev_fld_i, ev_cal_t, ev_cal_c, ev_cal_p, ev_cal_i, ev_mak_t, ev_mak_c, ev_mak_p, ev_mak_i, ev_mth_t, ev_mth_c, ev_mth_p, ev_mth_i, ev_bi_t, ev_bi_c, ev_bi_p, ev_bi_i, ev_bm_t, ev_bm_c, ev_bm_p, ev_bm_i, ev_isi_t, ev_isi_c, ev_isi_p, ev_isi_i, ev_isx_t, ev_isx_c, ev_isx_p, ev_isx_i, ev_xfd_t, ev_xfd_c, ev_xfd_p, ev_xfd_i, ev_cmp1_t, ev_cmp1_c, ev_cmp1_p, ev_cmp1_i, ofO_some, ofO_none, truD_bl, truD_int, truD_non, andE_tt, andE_ff, orE_tt, orE_ff, ex_nil, ex_asg, ex_ex, ex_ret, ex_retN, ex_pas, ex_ite, ex_for, ex_whl, ex_rai, asg_nm, asg_sub, asg_att, wp_ok, wp_exc, wp_bad, wp_bind, wp_if, wp_nox, wp_ofO, ws_tri, ws_nx, ws_rt, ws_exc, ws_bad, ws_run, ws_then, ws_if, varE_z, varE_s, wipeD_nil, wipeD_cons, bindT_one, bin_add, bin_sub, bin_mul, bin_fdiv, bin_mod, bin_pow, neg_int, cmp_lt, cmp_le, cmp_gt, cmp_ge, cmp_eq, cmp_ne, len_rol, int_int, abs_int, rng1, its_items, lst_items, List.map_cons, List.map_nil, List.replicate_succ, List.replicate_zero, List.cons_append, List.nil_append, List.set_cons_zero, List.set_cons_succ, List.length_cons, List.length_nil, Option.some.injEq, exists_eq_left', decide_eq_true_eq, Nat.reducePow, Int.reducePow, Nat.reduceLT, Nat.reduceLeDiff, Int.reduceLT, Int.reduceLE, Int.reduceNeg, Int.reduceToNat, true_or, or_true, true_and, and_true, if_true, if_false, Bool.false_eq_true, Bool.not_true, Bool.not_false, Bool.not_eq_true', Bool.true_eq_false, reduceCtorEq, decide_eq_false_iff_not, not_true, not_false_iff, Nat.reduceAdd, Nat.reduceSub, *])

/-- a row of numbers below a thousand -/
def Row (r : List Int) (n : Nat) : Prop := r.length = n ∧ ∀ x ∈ r, 0 ≤ x ∧ x < 1000
theorem lstG_ok {M : Store} {xs : List D} (h : xs.length ≤ 1000000) : lstG M xs = .ok (.loc M.length) (M ++ [.lst xs]) := by
  unfold lstG
  rw [if_pos (by rw [sizeLine_val]; omega)]
  rfl
theorem atI_nat {α : Type} (xs : List α) (k : Nat) : atI xs (k : Int) = xs[k]? := by
  unfold atI ixN
  rw [if_pos (by omega)]
  by_cases h : k < xs.length
  · rw [if_pos (by omega)]
    simp
  · rw [if_neg (by omega), List.getElem?_eq_none (by omega)]
    rfl
theorem truD_lst {M : Store} {n : Nat} {xs : List D} (h : M[n]? = some (.lst xs)) : truD M (.loc n) = some (!xs.isEmpty) := by
  unfold truD
  simp only [h]
theorem srcOf_lst {M : Store} {n : Nat} {xs : List D} (h : M[n]? = some (.lst xs)) : srcOf M (.loc n) = .ok (.lst n xs) M := by
  unfold srcOf
  simp only [lstAt_eq.mpr h]
/-! ends as equations -/
theorem eq_of_wp {α : Type} {o : Out α} {x : α} {M : Store} (h : Wp o (fun a M1 => a = x ∧ M1 = M) (fun _ _ _ => False)) : o = .ok x M := by
  cases o with
  | ok a M1 =>
    obtain ⟨h1, h2⟩ := (show a = x ∧ M1 = M from h)
    rw [h1, h2]
  | exc c fs M1 => exact (show False from h).elim
  | bad => exact (show False from h).elim
abbrev NoX : Xn := fun _ _ _ => False
theorem comp_map {s : Src} {tg : List Nat} {sole : Bool} {e : Env} {tt : Env → Store → Out Bool} {te : Env → Store → Out D} {M : Store} (f : D → D) (hs : s.stands M = true) :
    ∀ {xs acc : List D}, (∀ x ∈ xs, ∃ e', bindT tg sole x e = some e' ∧ Wp (tt e' M) (fun b M1 => b = true ∧ M1 = M) NoX ∧ Wp (te e' M) (fun d M1 => d = f x ∧ M1 = M) NoX) → acc.length + xs.length ≤ 1000000 →
      compL s tg sole e tt te xs acc M = .ok (acc ++ xs.map f) M
  | [], acc, _, _ => by
    unfold compL
    rw [if_pos hs, List.map_nil, List.append_nil]
  | x :: r, acc, h, hl => by
    obtain ⟨e', h1, h2, h3⟩ := h x List.mem_cons_self
    unfold compL
    rw [if_pos hs, h1]
    show ((tt e' M).nox.bind _) = _
    rw [eq_of_wp h2]
    show ((te e' M).nox.bind _) = _
    rw [eq_of_wp h3]
    show (if acc.length < sizeLine then _ else _) = _
    rw [List.length_cons] at hl
    rw [if_pos (by rw [sizeLine_val]; omega), comp_map f hs (fun y hy => h y (List.mem_cons_of_mem _ hy)) (by rw [List.length_append]; simp; omega)]
    simp
/-- [f(x) for x in xs], nothing laid -/
theorem comp_g {α : Type} (g f : α → D) {s : Src} {i : Nat} {e : Env} {te : Env → Store → Out D} {M : Store} {xs : List α} (hs : s.stands M = true) (hl : xs.length ≤ 1000000)
    (h : ∀ x ∈ xs, Wp (te (e.set i (some (g x))) M) (fun d M1 => d = f x ∧ M1 = M) NoX) : compL s [i] true e (fun _ M' => .ok true M') te (xs.map g) [] M = .ok (xs.map f) M := by
  have key : ∀ (l : List α) (acc : List D), (∀ x ∈ l, x ∈ xs) → acc.length + l.length ≤ 1000000 → compL s [i] true e (fun _ M' => .ok true M') te (l.map g) acc M = .ok (acc ++ l.map f) M := by
    intro l
    induction l with
    | nil =>
      intro acc _ _
      rw [List.map_nil]
      unfold compL
      rw [if_pos hs, List.map_nil, List.append_nil]
    | cons x r ih =>
      intro acc hm hl
      rw [List.map_cons]
      unfold compL
      rw [if_pos hs, bindT_one]
      show (Out.bind _ _) = _
      have e1 := eq_of_wp (h x (hm x List.mem_cons_self))
      show ((te (e.set i (some (g x))) M).nox.bind _) = _
      rw [e1]
      show (if acc.length < sizeLine then _ else _) = _
      rw [List.length_cons] at hl
      rw [if_pos (by rw [sizeLine_val]; omega), ih (acc ++ [f x]) (fun y hy => hm y (List.mem_cons_of_mem _ hy)) (by rw [List.length_append, List.length_singleton]; omega)]
      simp
  have := key xs [] (fun _ h => h) (by simpa using hl)
  rwa [List.nil_append] at this
/-! lists of ints -/
theorem intsOf_map : ∀ xs : List Int, intsOf (xs.map D.int) = some xs
  | [] => rfl
  | x :: r => by
    show (intsOf (r.map D.int)).map (x :: ·) = _
    rw [intsOf_map r]
    rfl
section
variable {M : Store} {n : Nat} {xs : List Int}
theorem ints_at (h : M[n]? = some (.lst (xs.map D.int))) : (lstAt M n).bind intsOf = some xs := by
  rw [lstAt_eq.mpr h]
  exact intsOf_map xs
theorem max_ints {m : Int} (h : M[n]? = some (.lst (xs.map D.int))) (e : maxI xs = some m) : biE .max M [.loc n] = .ok (.int m) M := by
  show (match (lstAt M n).bind intsOf with | some is => ofO ((maxI is).map D.int) M | none => .bad) = _
  rw [ints_at h]
  show ofO ((maxI xs).map D.int) M = _
  rw [e]
  rfl
theorem min_ints {m : Int} (h : M[n]? = some (.lst (xs.map D.int))) (e : minI xs = some m) : biE .min M [.loc n] = .ok (.int m) M := by
  show (match (lstAt M n).bind intsOf with | some is => ofO ((minI is).map D.int) M | none => .bad) = _
  rw [ints_at h]
  show ofO ((minI xs).map D.int) M = _
  rw [e]
  rfl
theorem sum_ints (h : M[n]? = some (.lst (xs.map D.int))) : biE .sum M [.loc n] = .ok (.int xs.sum) M := by
  show (match (lstAt M n).bind intsOf with | some is => Out.ok (D.int is.sum) M | none => .bad) = _
  rw [ints_at h]
theorem len_ints (h : M[n]? = some (.lst (xs.map D.int))) : biE .len M [.loc n] = .ok (.int xs.length) M := by
  rw [len_loc h, List.length_map]
theorem set_ints {i v : Int} (h : M[n]? = some (.lst (xs.map D.int))) (h0 : 0 ≤ i) (h1 : i < xs.length) : setE M (.loc n) (.int i) (.int v) = .ok () (M.set n (.lst ((xs.set i.toNat v).map D.int))) := by
  unfold setE
  simp only [h]
  show (match ixN (xs.map D.int).length i with | some j => Out.ok () (M.set n (.lst ((xs.map D.int).set j (.int v)))) | none => .bad) = _
  have e : ixN (xs.map D.int).length i = some i.toNat := by
    unfold ixN
    rw [if_pos h0, if_pos (by rw [List.length_map]; exact h1)]
  rw [e, List.map_set]
end
theorem idx_lst {M : Store} {a : Nat} {xs : List D} {k : Nat} {d : D} (h : M[a]? = some (.lst xs)) (e : xs[k]? = some d) : idxE M (.loc a) (.int (k : Int)) = some d := by
  show (match M[a]? with | some (.lst xs) => _ | some (.dct kvs) => _ | some (.dtt kvs) => _ | _ => none) = _
  rw [h]
  show atI xs (k : Int) = _
  rw [atI_nat, e]
theorem idx_pair1 (M : Store) (p : Int × Int) : idxE M (pairD p) (.int 1) = some (.int p.2) := Eq.trans rfl rfl
theorem app_get {M : Store} {n : Nat} {xs : List D} (h : M[n]? = some (.lst xs)) (hl : xs.length < sizeLine) (x : D) : bmE .append M (.loc n) [x] = .ok .non (M.set n (.lst (xs ++ [x]))) := by
  show (match M[n]? with | some (.lst xs) => _ | _ => _) = _
  rw [h]
  show (if xs.length < sizeLine then _ else _) = _
  rw [if_pos hl]
theorem ty_lst {M : Store} {n : Nat} {xs : List D} (h : M[n]? = some (.lst xs)) : bmTy .append M (.loc n) = true ∧ bmTy .index M (.loc n) = true ∧ bmTy .pop M (.loc n) = true ∧ bmTy .extend M (.loc n) = true := by
  have : (lstAt M n).isSome = true := by rw [lstAt_eq.mpr h]; rfl
  exact ⟨this, this, this, this⟩
theorem findD_first {m : Int} : ∀ {xs : List Int} {k : Nat}, xs[k]? = some m → (∀ j, j < k → xs[j]? ≠ some m) → findD (fun y => eqS y (.int m)) (xs.map D.int) = some k
  | [], k, h, _ => by simp at h
  | x :: r, 0, h, _ => by
    have h : x = m := by simpa using h
    rw [List.map_cons]
    unfold findD
    rw [if_pos (by show (x == m) = true; simpa using h)]
  | x :: r, k + 1, h, hj => by
    have h0 : x ≠ m := fun z => hj 0 (by omega) (by simp [z])
    rw [List.map_cons]
    unfold findD
    rw [if_neg (by show ¬ (x == m) = true; simpa using h0), findD_first (k := k) (by simpa using h) fun j hj' => by simpa using hj (j + 1) (by omega)]
    rfl
theorem index_ints {M : Store} {n k : Nat} {xs : List Int} {m : Int} (h : M[n]? = some (.lst (xs.map D.int))) (hk : xs[k]? = some m) (hj : ∀ j, j < k → xs[j]? ≠ some m) : bmE .index M (.loc n) [.int m] = .ok (.int k) M := by
  have sc : ((D.int m).sc && (xs.map D.int).all D.sc) = true := by
    rw [List.all_map]
    have : xs.all (D.sc ∘ D.int) = true := List.all_eq_true.mpr fun _ _ => rfl
    rw [this]
    rfl
  show (match M[n]? with | some (.lst ys) => _ | _ => _) = _
  rw [h]
  show (if ((D.int m).sc && (xs.map D.int).all D.sc) = true then _ else _) = _
  rw [if_pos sc, findD_first hk hj]
/-! two lists of ints -/
theorem pysO_ints (f : Nat → Option PyData) : ∀ xs : List Int, pysO f (xs.map D.int) = some (xs.map PyData.int)
  | [] => rfl
  | x :: r => by
    show (match pyO f (.int x), pysO f (r.map D.int) with | some x, some xs => some (x :: xs) | _, _ => none) = _
    rw [pysO_ints f r]
    rfl
theorem py_ints {M : Store} {n : Nat} {xs : List Int} (h : M[n]? = some (.lst (xs.map D.int))) : py M (.loc n) = some (.list (xs.map PyData.int)) := by
  show loD M 4 n = _
  unfold loD
  rw [h]
  show (pysO (loD M 3) (xs.map D.int)).map PyData.list = _
  rw [pysO_ints]
  rfl
theorem eqvAll_ints : ∀ xs ys : List Int, PyData.eqvAll (xs.map PyData.int) (ys.map PyData.int) = decide (xs = ys)
  | [], [] => rfl
  | [], _ :: _ => rfl
  | _ :: _, [] => rfl
  | x :: xs, y :: ys => by
    show (x == y && PyData.eqvAll (xs.map PyData.int) (ys.map PyData.int)) = _
    rw [eqvAll_ints xs ys]
    by_cases h : x = y <;> by_cases h' : xs = ys <;> simp [h, h']
theorem lay_ints : ∀ xs : List Int, PyData.canLayAll0 (xs.map PyData.int) = true
  | [] => rfl
  | x :: r => by
    show (true && PyData.canLayAll0 (r.map PyData.int)) = true
    rw [lay_ints r]
    rfl
theorem dep_ints : ∀ xs : List Int, PyData.depthAll (xs.map PyData.int) = 0
  | [] => rfl
  | x :: r => by
    show max 0 (PyData.depthAll (r.map PyData.int)) = 0
    rw [dep_ints r]
    rfl
theorem shaped_ints (xs : List Int) : SeqAt.shaped (.list (xs.map PyData.int)) = true := by
  show (PyData.canLayAll0 (xs.map PyData.int) && decide (PyData.depthAll (xs.map PyData.int) + 1 ≤ 64)) = true
  rw [lay_ints, dep_ints]
  rfl
theorem eq_ints {M : Store} {a b : Nat} {xs ys : List Int} (h : M[a]? = some (.lst (xs.map D.int))) (h' : M[b]? = some (.lst (ys.map D.int))) : eqE M (.loc a) (.loc b) = some (decide (xs = ys)) := by
  unfold eqE
  rw [py_ints h, py_ints h']
  show (if (false && false) = true then _ else (if (SeqAt.shaped (.list (xs.map PyData.int)) && SeqAt.shaped (.list (ys.map PyData.int))) = true then some (PyData.eqvAll (xs.map PyData.int) (ys.map PyData.int)) else none)) = _
  rw [shaped_ints, shaped_ints, eqvAll_ints]
  rfl
theorem ne_ints {M : Store} {a b : Nat} {xs ys : List Int} (h : M[a]? = some (.lst (xs.map D.int))) (h' : M[b]? = some (.lst (ys.map D.int))) : cmpE .ne M (.loc a) (.loc b) = some (!decide (xs = ys)) := by
  show (eqE M (.loc a) (.loc b)).map (!·) = _
  rw [eq_ints h h']
  rfl
theorem pairsOf_map : ∀ ps : List (Int × Int), pairsOf (ps.map pairD) = some ps
  | [] => rfl
  | (i, j) :: r => by
    show (pairsOf (r.map pairD)).map ((i, j) :: ·) = _
    rw [pairsOf_map r]
    rfl
theorem sorted_pairs {M : Store} {n : Nat} {ps : List (Int × Int)} (h : M[n]? = some (.lst (ps.map pairD))) (hn : ps ≠ []) : biE .sorted M [.loc n] = .ok (.loc M.length) (M ++ [.lst ((sortP ps).map pairD)]) := by
  show (match lstAt M n with | some xs => (match intsOf xs with | some is => mk M (.lst ((sortI is).map D.int)) | none => (match pairsOf xs with | some ps => mk M (.lst ((sortP ps).map pairD)) | none => .bad)) | none => .bad) = _
  rw [lstAt_eq.mpr h]
  cases ps with
  | nil => exact absurd rfl hn
  | cons p r =>
    have e : intsOf ((p :: r).map pairD) = none := rfl
    show (match intsOf ((p :: r).map pairD) with | some is => mk M (.lst ((sortI is).map D.int)) | none => (match pairsOf ((p :: r).map pairD) with | some ps => mk M (.lst ((sortP ps).map pairD)) | none => .bad)) = _
    rw [e, pairsOf_map]
    rfl
theorem maxI_spec : ∀ {xs : List Int}, xs ≠ [] → ∃ m, maxI xs = some m ∧ m ∈ xs ∧ ∀ y ∈ xs, y ≤ m
  | [], h => absurd rfl h
  | [x], _ => ⟨x, rfl, List.mem_cons_self, fun y hy => by
    have : y = x := by simpa using hy
    omega⟩
  | x :: y :: r, _ => by
    obtain ⟨m, e, h1, h2⟩ := maxI_spec (xs := y :: r) (by simp)
    have e' : maxI (x :: y :: r) = some (if m > x then m else x) := by
      show (match maxI (y :: r) with | none => some x | some m => some (if m > x then m else x)) = _
      rw [e]
    refine ⟨_, e', ?_, fun z hz => ?_⟩
    · split
      · exact List.mem_cons_of_mem _ h1
      · exact List.mem_cons_self
    · rcases List.mem_cons.mp hz with rfl | hz
      · split <;> omega
      · have := h2 z hz
        split <;> omega
theorem minI_spec : ∀ {xs : List Int}, xs ≠ [] → ∃ m, minI xs = some m ∧ m ∈ xs ∧ ∀ y ∈ xs, m ≤ y
  | [], h => absurd rfl h
  | [x], _ => ⟨x, rfl, List.mem_cons_self, fun y hy => by
    have : y = x := by simpa using hy
    omega⟩
  | x :: y :: r, _ => by
    obtain ⟨m, e, h1, h2⟩ := minI_spec (xs := y :: r) (by simp)
    have e' : minI (x :: y :: r) = some (if m < x then m else x) := by
      show (match minI (y :: r) with | none => some x | some m => some (if m < x then m else x)) = _
      rw [e]
    refine ⟨_, e', ?_, fun z hz => ?_⟩
    · split
      · exact List.mem_cons_of_mem _ h1
      · exact List.mem_cons_self
    · rcases List.mem_cons.mp hz with rfl | hz
      · split <;> omega
      · have := h2 z hz
        split <;> omega
theorem row_app {r : List Int} {i : Nat} {x : Int} (h : Row r i) (h0 : 0 ≤ x) (h1 : x < 1000) : Row (r ++ [x]) (i + 1) := by
  refine ⟨by simp [h.1], fun y hy => ?_⟩
  rcases List.mem_append.mp hy with hy | hy
  · exact h.2 y hy
  · have : y = x := by simpa using hy
    subst this
    exact ⟨h0, h1⟩
def rowB : S := (.cons (.ite (.cmp .gt (.var 4) (.int 0)) (.cons (.ex (.bm .append (.var 5) (.cons (.bin .mod (.bi .int (.cons (.var 4) .nil)) (.int 1000)) .nil))) (.cons (.asg (.nm 4) (.bin .fdiv (.var 4) (.int 1000))) .nil)) (.cons (.asg (.nm 7) (.bin .mod (.bi .int (.cons (.bin .add (.bin .add (.bin .mul (.var 3) (.int 48271)) (.bin .mul (.var 6) (.int 69621))) (.int 12345)) .nil)) (.int 2147483647))) (.cons (.asg (.nm 7) (.bin .mod (.bi .int (.cons (.bin .add (.bin .add (.bin .mul (.var 7) (.var 7)) (.bin .mul (.var 7) (.int 16807))) (.bin .mul (.var 6) (.int 40692))) .nil)) (.int 2147483399))) (.cons (.ex (.bm .append (.var 5) (.cons (.bin .mod (.bin .fdiv (.var 7) (.int 64)) (.int 1000)) .nil))) .nil)))) .nil)
/-- a turn of it -/
theorem row_turn {G : Gl} {cl : Cl} {ns : List Int} {place many i : Nat} {cell rest : Int} {r : List Int} {M : Store} {x7 : Option D} (hr : Row r i) (hi : i ≤ 1000) :
    Ws (exS G cl rowB none [some (.rol ns), some (.int place), some (.int many), some (.int cell), some (.int rest), some (.loc M.length), some (.int i), x7] (M ++ [.lst (r.map D.int)]))
      (fun e M1 => ∃ rest r x7, Row r (i + 1) ∧ M1 = M ++ [.lst (r.map D.int)] ∧ e = [some (.rol ns), some (.int place), some (.int many), some (.int cell), some (.int rest), some (.loc M.length), some (.int i), x7]) (fun _ _ => False) (fun _ _ _ _ => False) := by
  have hl : (r.map D.int).length < sizeLine := by rw [List.length_map, hr.1, sizeLine_val]; omega
  unfold rowB
  walk_at "dv"
  simp only [appTy_new, app_new _ _ _ hl, if_true, wp_ok]
  by_cases h : 0 < rest
  · rw [if_pos h]
    refine ⟨rest / 1000, r ++ [rest % 1000], x7, row_app hr (by omega) (by omega), by simp, rfl⟩
  · rw [if_neg h, if_pos (.inl (by omega))]
    refine ⟨rest, r ++ [_], _, row_app (x := _ % 1000) hr ?_ ?_, by rw [List.map_append]; rfl, rfl⟩
    · omega
    · omega
theorem row_ok {G : Gl} {P : Nat → Option Def} (hP : P 15 = some Bd.f15) (n : Nat) (ns : List Int) (place many : Nat) (hp : place ≤ 1000) (hm : many ≤ 1000) (M : Store) :
    Wp (callN G P (n + 1) 15 [.rol ns, .int place, .int many] M) (fun d M1 => d = .loc M.length ∧ ∃ r, Row r many ∧ M1 = M ++ [.lst (r.map D.int)]) (fun _ _ _ => False) := by
  have fin_ : ∀ r : List Int, Row r many → Wp (fin M (.loc M.length) (M ++ [.lst (r.map D.int)])) (fun d M1 => d = .loc M.length ∧ ∃ r, Row r many ∧ M1 = M ++ [.lst (r.map D.int)]) (fun _ _ _ => False) := fun r hr => by
    have := fin_list (M := M) (l := [.lst (r.map D.int)]) (k := 0) rfl (undL_ints r)
    rw [Nat.add_zero] at this
    rw [this]
    exact ⟨rfl, r, hr, rfl⟩
  have mm : -4611686018427387904 ≤ (many : Int) ∧ (many : Int) < 4611686018427387904 := by omega
  have loop : ∀ (cell rest : Int), Ws (forL (.its ((List.range many).map fun (i : Nat) => D.int (i : Int))) [6] true (exS G (callN G P n) rowB none) ((List.range many).map fun (i : Nat) => D.int (i : Int)) [some (.rol ns), some (.int place), some (.int many), some (.int cell), some (.int rest), some (.loc M.length), none, none] (M ++ [.lst []]))
      (fun e M1 => ∃ r, Row r many ∧ M1 = M ++ [.lst (r.map D.int)] ∧ ∀ M', varE 5 e M' = .ok (.loc M.length) M') (fun _ _ => False) (fun _ _ _ _ => False) := by
    intro cell rest
    refine ws_for (fun i e M1 => ∃ rest r x6 x7, Row r i ∧ M1 = M ++ [.lst (r.map D.int)] ∧ e = [some (.rol ns), some (.int place), some (.int many), some (.int cell), some (.int rest), some (.loc M.length), x6, x7]) ⟨rest, [], none, none, ⟨rfl, fun x hx => by cases hx⟩, rfl, rfl⟩ ?_ ?_
    · rintro i x e M1 hx ⟨rest, r, x6, x7, hr, rfl, rfl⟩
      obtain ⟨hi, rfl⟩ := range_get hx
      refine ⟨stands_its _ _, _, rfl, ?_⟩
      exact (row_turn hr (by omega)).mono (fun e M1 ⟨rest, r, x7, a, b, c⟩ => ⟨rest, r, _, x7, a, b, c⟩) (fun _ _ h => h) fun _ _ _ _ h => h
    · rintro e M1 ⟨rest, r, x6, x7, hr, rfl, rfl⟩
      rw [range_len] at hr
      exact ⟨stands_its _ _, r, hr, rfl, fun _ => rfl⟩
  refine wp_call hP rfl ?_
  unfold Bd.f15
  walk_at "dv"
  have go : ∀ cell : Int, Ws (forL (.its ((List.range many).map fun (i : Nat) => D.int (i : Int))) [6] true (exS G (callN G P n) rowB none) ((List.range many).map fun (i : Nat) => D.int (i : Int)) [some (.rol ns), some (.int place), some (.int many), some (.int cell), some (.int (cell - 1000000000000000000)), some (.loc M.length), none, none] (M ++ [.lst []]))
      (fun e M_2 => Wp (varE 5 e M_2) (fun v M1 => Wp (fin M v M1) (fun d M1 => d = D.loc M.length ∧ ∃ r, Row r many ∧ M1 = M ++ [Ob.lst (List.map D.int r)]) fun x x_1 x_2 => False) fun c fs M_3 => oldOk M M_3 = true ∧ (fs.all fun kv => D.und 0 kv.snd) = true ∧ False)
      (fun v M1 => Wp (fin M v M1) (fun d M1 => d = D.loc M.length ∧ ∃ r, Row r many ∧ M1 = M ++ [Ob.lst (List.map D.int r)]) fun x x_1 x_2 => False)
      (fun c fs x M1 => oldOk M M1 = true ∧ (fs.all fun kv => D.und 0 kv.snd) = true ∧ False) := fun cell =>
    (loop cell (cell - 1000000000000000000)).mono (fun e M1 ⟨r, hr, e1, e2⟩ => by rw [e2, e1]; exact fin_ r hr) (fun _ _ h => h.elim) fun _ _ _ _ h => h.elim
  have hx : idxE M (.rol ns) (.int place) = (ns[place]?).map D.int := by
    show (atI ns (place : Int)).map D.int = _
    rw [atI_nat]
  simp only [lstG_ok (M := M) (xs := []) (Nat.zero_le _), wp_ok, if_pos mm, Int.toNat_natCast, hx]
  by_cases h : (place : Int) < ns.length
  · rw [if_pos h]
    have h : place < ns.length := by omega
    refine ⟨.int ns[place], by rw [List.getElem?_eq_getElem h]; rfl, ?_⟩
    exact go ns[place]
  · rw [if_neg h]
    exact go _
end Dv
end

section
set_option Elab.async false
set_option autoImplicit false
set_option linter.all false
set_option maxRecDepth 100000
set_option maxHeartbeats 1000000
/-! M20: shares. -/
namespace Dv
open PySem L2
section
variable {M : Store}
theorem idx_ints {a : Nat} {r : List Int} {i : Int} (h : M[a]? = some (.lst (r.map D.int))) (h0 : 0 ≤ i) (h1 : i < r.length) : ∃ v, r[i.toNat]? = some v ∧ idxE M (.loc a) (.int i) = some (.int v) := by
  have hl : i.toNat < r.length := by omega
  refine ⟨r[i.toNat], List.getElem?_eq_getElem hl, ?_⟩
  show (match M[a]? with | some (.lst xs) => _ | some (.dct kvs) => _ | some (.dtt kvs) => _ | _ => none) = _
  rw [h]
  show atI (r.map D.int) i = _
  obtain ⟨k, rfl⟩ := Int.eq_ofNat_of_zero_le h0
  rw [atI_nat, List.getElem?_map, List.getElem?_eq_getElem (by omega)]
  rfl
theorem row_at {a : Nat} {r : List Int} {n : Nat} {i : Int} (h : M[a]? = some (.lst (r.map D.int))) (hr : Row r n) (h0 : 0 ≤ i) (h1 : i < n) : ∃ v, idxE M (.loc a) (.int i) = some (.int v) ∧ 0 ≤ v ∧ v < 1000 := by
  obtain ⟨v, e1, e2⟩ := idx_ints h h0 (by rw [hr.1]; exact h1)
  exact ⟨v, e2, hr.2 v (List.mem_of_getElem? e1)⟩
end
theorem isint_ok {G : Gl} {P : Nat → Option Def} (hP : P 14 = some Bd.f14) (n : Nat) (i : Int) (M : Store) : callN G P (n + 1) 14 [.int i] M = .ok (.bl true) M := by
  rw [call_eq hP rfl]
  unfold Bd.f14
  exact fin_flat0 rfl
local macro_rules | `(tactic| walk_at "dv") => `(tactic| simp only [ev_nil_a, ev_nil_p, ev_nil_c, ev_cons_a, ev_rng_i, ev_var, ev_non, ev_bl, ev_int, ev_str, ev_glb, ev_bin, ev_neg, ev_cmp, ev_chn, ev_and, ev_or, ev_not, ev_ife, ev_tup, ev_lst, ev_dnl, ev_idx, ev_slc, ev_fld, ev_cal, ev_mak, ev_mth, ev_bi, ev_bm, ev_isi, ev_isx, ev_xfd, ev_cmp1, ev_and_t, ev_or_t, ev_not_t, ev_and_c, ev_or_c, ev_not_c, ev_var_t, ev_var_c, ev_var_p, ev_var_i, ev_non_t, ev_non_c, ev_non_p, ev_non_i, ev_bl_t, ev_bl_c, ev_bl_p, ev_bl_i, ev_int_t, ev_int_c, ev_int_p, ev_int_i, ev_str_t, ev_str_c, ev_str_p, ev_str_i, ev_glb_t, ev_glb_c, ev_glb_p, ev_glb_i, ev_bin_t, ev_bin_c, ev_bin_p, ev_bin_i, ev_neg_t, ev_neg_c, ev_neg_p, ev_neg_i, ev_cmp_t, ev_cmp_c, ev_cmp_p, ev_cmp_i, ev_chn_t, ev_chn_c, ev_chn_p, ev_chn_i, ev_tup_t, ev_tup_c, ev_tup_p, ev_tup_i, ev_lst_t, ev_lst_c, ev_lst_p, ev_lst_i, ev_idx_t, ev_idx_c, ev_idx_p, ev_idx_i, ev_slc_t, ev_slc_c, ev_slc_p, ev_slc_i, ev_fld_t, ev_fld_c, ev_fld_p, ev_fld_i, ev_cal_t, ev_cal_c, ev_cal_p, ev_cal_i, ev_mak_t, ev_mak_c, ev_mak_p, ev_mak_i, ev_mth_t, ev_mth_c, ev_mth_p, ev_mth_i, ev_bi_t, ev_bi_c, ev_bi_p, ev_bi_i, ev_bm_t, ev_bm_c, ev_bm_p, ev_bm_i, ev_isi_t, ev_isi_c, ev_isi_p, ev_isi_i, ev_isx_t, ev_isx_c, ev_isx_p, ev_isx_i, ev_xfd_t, ev_xfd_c, ev_xfd_p, ev_xfd_i, ev_cmp1_t, ev_cmp1_c, ev_cmp1_p, ev_cmp1_i, ofO_some, ofO_none, truD_bl, truD_int, truD_non, andE_tt, andE_ff, orE_tt, orE_ff, ex_nil, ex_cons, ex_asg, ex_ex, ex_ret, ex_retN, ex_pas, ex_ite, ex_for, ex_whl, ex_rai, asg_nm, asg_sub, asg_att, wp_ok, wp_exc, wp_bad, wp_bind, wp_if, wp_nox, wp_ofO, ws_tri, ws_nx, ws_rt, ws_exc, ws_bad, ws_run, ws_then, ws_if, varE_z, varE_s, wipeD_nil, wipeD_cons, bindT_one, bin_add, bin_sub, bin_mul, bin_fdiv, bin_mod, bin_pow, neg_int, cmp_lt, cmp_le, cmp_gt, cmp_ge, cmp_eq, cmp_ne, len_rol, int_int, abs_int, rng1, its_items, lst_items, List.map_cons, List.map_nil, List.replicate_succ, List.replicate_zero, List.cons_append, List.nil_append, List.set_cons_zero, List.set_cons_succ, List.length_cons, List.length_nil, Option.some.injEq, exists_eq_left', decide_eq_true_eq, Nat.reducePow, Int.reducePow, Nat.reduceLT, Nat.reduceLeDiff, Int.reduceLT, Int.reduceLE, Int.reduceNeg, Int.reduceToNat, true_or, or_true, true_and, and_true, if_true, if_false, Bool.false_eq_true, Bool.not_true, Bool.not_false, Bool.not_eq_true', Bool.true_eq_false, reduceCtorEq, decide_eq_false_iff_not, not_true, not_false_iff, Nat.reduceAdd, Nat.reduceSub])
local macro_rules | `(tactic| walk_at "dvh") => `(tactic| simp only [ev_nil_a, ev_nil_p, ev_nil_c, ev_cons_a, ev_rng_i, ev_var, ev_non, ev_bl, ev_int, ev_str, ev_glb, ev_bin, ev_neg, ev_cmp, ev_chn, ev_and, ev_or, ev_not, ev_ife, ev_tup, ev_lst, ev_dnl, ev_idx, ev_slc, ev_fld, ev_cal, ev_mak, ev_mth, ev_bi, ev_bm, ev_isi, ev_isx, ev_xfd, ev_cmp1, ev_and_t, ev_or_t, ev_not_t, ev_and_c, ev_or_c, ev_not_c, ev_var_t, ev_var_c, ev_var_p, ev_var_i, ev_non_t, ev_non_c, ev_non_p, ev_non_i, ev_bl_t, ev_bl_c, ev_bl_p, ev_bl_i, ev_int_t, ev_int_c, ev_int_p, ev_int_i, ev_str_t, ev_str_c, ev_str_p, ev_str_i, ev_glb_t, ev_glb_c, ev_glb_p, ev_glb_i, ev_bin_t, ev_bin_c, ev_bin_p, ev_bin_i, ev_neg_t, ev_neg_c, ev_neg_p, ev_neg_i, ev_cmp_t, ev_cmp_c, ev_cmp_p, ev_cmp_i, ev_chn_t, ev_chn_c, ev_chn_p, ev_chn_i, ev_tup_t, ev_tup_c, ev_tup_p, ev_tup_i, ev_lst_t, ev_lst_c, ev_lst_p, ev_lst_i, ev_idx_t, ev_idx_c, ev_idx_p, ev_idx_i, ev_slc_t, ev_slc_c, ev_slc_p, ev_slc_i, ev_fld_t, ev_fld_c, ev_fld_p, ev_fld_i, ev_cal_t, ev_cal_c, ev_cal_p, ev_cal_i, ev_mak_t, ev_mak_c, ev_mak_p, ev_mak_i, ev_mth_t, ev_mth_c, ev_mth_p, ev_mth_i, ev_bi_t, ev_bi_c, ev_bi_p, ev_bi_i, ev_bm_t, ev_bm_c, ev_bm_p, ev_bm_i, ev_isi_t, ev_isi_c, ev_isi_p, ev_isi_i, ev_isx_t, ev_isx_c, ev_isx_p, ev_isx_i, ev_xfd_t, ev_xfd_c, ev_xfd_p, ev_xfd_i, ev_cmp1_t, ev_cmp1_c, ev_cmp1_p, ev_cmp1_i, ofO_some, ofO_none, truD_bl, truD_int, truD_non, andE_tt, andE_ff, orE_tt, orE_ff, ex_nil, ex_cons, ex_asg, ex_ex, ex_ret, ex_retN, ex_pas, ex_ite, ex_for, ex_whl, ex_rai, asg_nm, asg_sub, asg_att, wp_ok, wp_exc, wp_bad, wp_bind, wp_if, wp_nox, wp_ofO, ws_tri, ws_nx, ws_rt, ws_exc, ws_bad, ws_run, ws_then, ws_if, varE_z, varE_s, wipeD_nil, wipeD_cons, bindT_one, bin_add, bin_sub, bin_mul, bin_fdiv, bin_mod, bin_pow, neg_int, cmp_lt, cmp_le, cmp_gt, cmp_ge, cmp_eq, cmp_ne, len_rol, int_int, abs_int, rng1, its_items, lst_items, List.map_cons, List.map_nil, List.replicate_succ, List.replicate_zero, List.cons_append, List.nil_append, List.set_cons_zero, List.set_cons_succ, List.length_cons, List.length_nil, Option.some.injEq, exists_eq_left', decide_eq_true_eq, Nat.reducePow, Int.reducePow, Nat.reduceLT, Nat.reduceLeDiff, Int.reduceLT, Int.reduceLE, Int.reduceNeg, Int.reduceToNat, true_or, or_true, true_and, and_true, if_true, if_false, Bool.false_eq_true, Bool.not_true, Bool.not_false, Bool.not_eq_true', Bool.true_eq_false, reduceCtorEq, decide_eq_false_iff_not, not_true, not_false_iff, Nat.reduceAdd, Nat.reduceSub, *])
local macro_rules | `(tactic| walk_at "st") => `(tactic| simp only [ev_nil_a, ev_nil_p, ev_nil_c, ev_cons_a, ev_rng_i, ev_var, ev_non, ev_bl, ev_int, ev_str, ev_glb, ev_bin, ev_neg, ev_cmp, ev_chn, ev_and, ev_or, ev_not, ev_ife, ev_tup, ev_lst, ev_dnl, ev_idx, ev_slc, ev_fld, ev_cal, ev_mak, ev_mth, ev_bi, ev_bm, ev_isi, ev_isx, ev_xfd, ev_cmp1, ev_and_t, ev_or_t, ev_not_t, ev_and_c, ev_or_c, ev_not_c, ev_var_t, ev_var_c, ev_var_p, ev_var_i, ev_non_t, ev_non_c, ev_non_p, ev_non_i, ev_bl_t, ev_bl_c, ev_bl_p, ev_bl_i, ev_int_t, ev_int_c, ev_int_p, ev_int_i, ev_str_t, ev_str_c, ev_str_p, ev_str_i, ev_glb_t, ev_glb_c, ev_glb_p, ev_glb_i, ev_bin_t, ev_bin_c, ev_bin_p, ev_bin_i, ev_neg_t, ev_neg_c, ev_neg_p, ev_neg_i, ev_cmp_t, ev_cmp_c, ev_cmp_p, ev_cmp_i, ev_chn_t, ev_chn_c, ev_chn_p, ev_chn_i, ev_tup_t, ev_tup_c, ev_tup_p, ev_tup_i, ev_lst_t, ev_lst_c, ev_lst_p, ev_lst_i, ev_idx_t, ev_idx_c, ev_idx_p, ev_idx_i, ev_slc_t, ev_slc_c, ev_slc_p, ev_slc_i, ev_fld_t, ev_fld_c, ev_fld_p, ev_fld_i, ev_cal_t, ev_cal_c, ev_cal_p, ev_cal_i, ev_mak_t, ev_mak_c, ev_mak_p, ev_mak_i, ev_mth_t, ev_mth_c, ev_mth_p, ev_mth_i, ev_bi_t, ev_bi_c, ev_bi_p, ev_bi_i, ev_bm_t, ev_bm_c, ev_bm_p, ev_bm_i, ev_isi_t, ev_isi_c, ev_isi_p, ev_isi_i, ev_isx_t, ev_isx_c, ev_isx_p, ev_isx_i, ev_xfd_t, ev_xfd_c, ev_xfd_p, ev_xfd_i, ev_cmp1_t, ev_cmp1_c, ev_cmp1_p, ev_cmp1_i, ofO_some, ofO_none, truD_bl, truD_int, truD_non, andE_tt, andE_ff, orE_tt, orE_ff, ex_nil, ex_asg, ex_ex, ex_ret, ex_retN, ex_pas, ex_ite, ex_for, ex_whl, ex_rai, asg_nm, asg_sub, asg_att, wp_ok, wp_exc, wp_bad, wp_bind, wp_if, wp_nox, wp_ofO, ws_tri, ws_nx, ws_rt, ws_exc, ws_bad, ws_run, ws_then, ws_if, varE_z, varE_s, wipeD_nil, wipeD_cons, bindT_one, bin_add, bin_sub, bin_mul, bin_fdiv, bin_mod, bin_pow, neg_int, cmp_lt, cmp_le, cmp_gt, cmp_ge, cmp_eq, cmp_ne, len_rol, int_int, abs_int, rng1, its_items, lst_items, List.map_cons, List.map_nil, List.replicate_succ, List.replicate_zero, List.cons_append, List.nil_append, List.set_cons_zero, List.set_cons_succ, List.length_cons, List.length_nil, Option.some.injEq, exists_eq_left', decide_eq_true_eq, Nat.reducePow, Int.reducePow, Nat.reduceLT, Nat.reduceLeDiff, Int.reduceLT, Int.reduceLE, Int.reduceNeg, Int.reduceToNat, true_or, or_true, true_and, and_true, if_true, if_false, Bool.false_eq_true, Bool.not_true, Bool.not_false, Bool.not_eq_true', Bool.true_eq_false, reduceCtorEq, decide_eq_false_iff_not, not_true, not_false_iff, Nat.reduceAdd, Nat.reduceSub, *])

/-! ### the weights -/
def Wts (ws : List Int) : Prop := ∀ w ∈ ws, 0 ≤ w ∧ w < 1000000000
theorem wts_app {ws : List Int} {x : Int} (h : Wts ws) (h0 : 0 ≤ x) (h1 : x < 1000000000) : Wts (ws ++ [x]) := fun y hy => by
  rcases List.mem_append.mp hy with hy | hy
  · exact h y hy
  · have : y = x := by simpa using hy
    subst this
    exact ⟨h0, h1⟩
def wtB : S := (.cons (.asg (.nm 3) (.bin .mod (.bi .int (.cons (.idx (.var 0) (.bin .add (.int 2) (.var 2))) .nil)) (.int 13))) (.cons (.ite (.cmp .eq (.bin .mod (.bi .int (.cons (.idx (.var 0) (.int 1)) .nil)) (.int 3)) (.int 0)) (.cons (.asg (.nm 3) (.bin .add (.bin .mul (.idx (.var 0) (.bin .add (.int 2) (.var 2))) (.int 1000000)) (.idx (.var 0) (.bin .add (.int 10) (.var 2))))) .nil) .nil) (.cons (.ite (.cmp .eq (.bin .mod (.bi .int (.cons (.idx (.var 0) (.bin .add (.int 18) (.var 2))) .nil)) (.int 5)) (.int 0)) (.cons (.asg (.nm 3) (.int 0)) .nil) .nil) (.cons (.ex (.bm .append (.var 1) (.cons (.var 3) .nil))) .nil))))
theorem wt_turn {G : Gl} {cl : Cl} {a k : Nat} {r ws : List Int} {M : Store} {x3 : Option D} (hM : M[a]? = some (.lst (r.map D.int))) (hr : Row r 30) (hk : k < 8) (hw : Wts ws) (hl : ws.length = k) :
    Ws (exS G cl wtB none [some (.loc a), some (.loc M.length), some (.int k), x3] (M ++ [.lst (ws.map D.int)]))
      (fun e M1 => ∃ ws' x3, Wts ws' ∧ ws'.length = k + 1 ∧ M1 = M ++ [.lst (ws'.map D.int)] ∧ e = [some (.loc a), some (.loc M.length), some (.int k), x3]) (fun _ _ => False) (fun _ _ _ _ => False) := by
  have hM' : ∀ l, (M ++ l)[a]? = some (.lst (r.map D.int)) := fun l => get_old hM
  have hz : (ws.map D.int).length < sizeLine := by rw [List.length_map, hl, sizeLine_val]; omega
  obtain ⟨v1, e1, a1, b1⟩ := row_at (i := 2 + (k : Int)) (hM' [.lst (ws.map D.int)]) hr (by omega) (by omega)
  obtain ⟨v2, e2, a2, b2⟩ := row_at (i := 1) (hM' [.lst (ws.map D.int)]) hr (by omega) (by omega)
  obtain ⟨v3, e3, a3, b3⟩ := row_at (i := 10 + (k : Int)) (hM' [.lst (ws.map D.int)]) hr (by omega) (by omega)
  obtain ⟨v4, e4, a4, b4⟩ := row_at (i := 18 + (k : Int)) (hM' [.lst (ws.map D.int)]) hr (by omega) (by omega)
  have fin_ : ∀ x : Int, 0 ≤ x → x < 1000000000 → ∃ ws' x3, Wts ws' ∧ ws'.length = k + 1 ∧ M ++ [Ob.lst (ws.map D.int ++ [D.int x])] = M ++ [.lst (ws'.map D.int)] ∧ [some (D.loc a), some (D.loc M.length), some (D.int k), some (D.int x)] = [some (.loc a), some (.loc M.length), some (.int k), x3] := fun x h0 h1 =>
    ⟨ws ++ [x], _, wts_app hw h0 h1, by simp [hl], by rw [List.map_append]; rfl, rfl⟩
  have aT := appTy_new M (ws.map D.int)
  have aA := fun x => app_new M (ws.map D.int) x hz
  unfold wtB
  walk_at "dvh"
  split <;> split <;> first | trivial | exact fin_ _ (by omega) (by omega)
theorem wts_ok {G : Gl} {P : Nat → Option Def} (hP : P 188 = some Bd.f188) (n : Nat) {a : Nat} {r : List Int} {M : Store} (hM : M[a]? = some (.lst (r.map D.int))) (hr : Row r 30) :
    Wp (callN G P (n + 1) 188 [.loc a] M) (fun d M1 => d = .loc M.length ∧ ∃ ws, Wts ws ∧ 0 < ws.length ∧ ws.length ≤ 8 ∧ (∃ w ∈ ws, 0 < w) ∧ M1 = M ++ [.lst (ws.map D.int)]) (fun _ _ _ => False) := by
  obtain ⟨v0, e0, a0, b0⟩ := row_at (i := 0) (get_old (l := [.lst []]) hM) hr (by omega) (by omega)
  have hM' : ∀ l, (M ++ l)[a]? = some (.lst (r.map D.int)) := fun l => get_old hM
  obtain ⟨m, hm⟩ : ∃ m : Nat, (m : Int) = 1 + v0 % 8 := ⟨(1 + v0 % 8).toNat, by omega⟩
  have loop : Ws (forL (.its ((List.range m).map fun (i : Nat) => D.int (i : Int))) [2] true (exS G (callN G P n) wtB none) ((List.range m).map fun (i : Nat) => D.int (i : Int)) [some (.loc a), some (.loc M.length), none, none] (M ++ [.lst []]))
      (fun e M1 => ∃ ws x2 x3, Wts ws ∧ ws.length = m ∧ M1 = M ++ [.lst (ws.map D.int)] ∧ e = [some (.loc a), some (.loc M.length), x2, x3]) (fun _ _ => False) (fun _ _ _ _ => False) := by
    refine ws_for (fun i e M1 => ∃ ws x2 x3, Wts ws ∧ ws.length = i ∧ M1 = M ++ [.lst (ws.map D.int)] ∧ e = [some (.loc a), some (.loc M.length), x2, x3]) ⟨[], none, none, (fun x hx => by cases hx), rfl, rfl, rfl⟩ ?_ ?_
    · rintro i x e M1 hx ⟨ws, x2, x3, hw, hl, rfl, rfl⟩
      obtain ⟨hi, rfl⟩ := range_get hx
      refine ⟨stands_its _ _, _, rfl, ?_⟩
      exact (wt_turn hM hr (by omega) hw hl).mono (fun e M1 ⟨ws, x3, a, b, c, d⟩ => ⟨ws, _, x3, a, b, c, d⟩) (fun _ _ h => h) fun _ _ _ _ h => h
    · rintro e M1 ⟨ws, x2, x3, hw, hl, rfl, rfl⟩
      rw [range_len] at hl
      exact ⟨stands_its _ _, ws, x2, x3, hw, hl, rfl, rfl⟩
  have fin_ : ∀ ws : List Int, Wts ws → 0 < ws.length → ws.length ≤ 8 → (∃ w ∈ ws, 0 < w) → Wp (fin M (.loc M.length) (M ++ [.lst (ws.map D.int)])) (fun d M1 => d = .loc M.length ∧ ∃ ws, Wts ws ∧ 0 < ws.length ∧ ws.length ≤ 8 ∧ (∃ w ∈ ws, 0 < w) ∧ M1 = M ++ [.lst (ws.map D.int)]) (fun _ _ _ => False) := fun ws h1 h2 h3 h4 => by
    have := fin_list (M := M) (l := [.lst (ws.map D.int)]) (k := 0) rfl (undL_ints ws)
    rw [Nat.add_zero] at this
    rw [this]
    exact ⟨rfl, ws, h1, h2, h3, h4, rfl⟩
  refine wp_call hP rfl ?_
  unfold Bd.f188
  have hl0 := lstG_ok (M := M) (xs := []) (Nat.zero_le _)
  have hmm : -4611686018427387904 ≤ 1 + v0 % 8 ∧ 1 + v0 % 8 < 4611686018427387904 := by omega
  have htn : (1 + v0 % 8).toNat = m := by omega
  walk_at "dvh"
  refine Ws.mono loop ?_ (fun _ _ h => h.elim) (fun _ _ _ _ h => h.elim)
  rintro e M1 ⟨ws, x2, x3, hw, hl, rfl, rfl⟩
  have g := get_new0 M [.lst (ws.map D.int)]
  have g : (M ++ [Ob.lst (ws.map D.int)])[M.length]? = some (.lst (ws.map D.int)) := g
  obtain ⟨mx, em, m1, m2⟩ := maxI_spec (xs := ws) (by intro z; rw [z] at hl; simp at hl; omega)
  have x1 := max_ints g em
  have x2' := len_ints g
  obtain ⟨v2, e2, a2, b2⟩ := row_at (i := 2) (hM' [.lst (ws.map D.int)]) hr (by omega) (by omega)
  obtain ⟨v1, e1, a1, b1⟩ := row_at (i := 1) (hM' [.lst (ws.map D.int)]) hr (by omega) (by omega)
  have q0 : 0 ≤ v1 % ws.length := Int.emod_nonneg _ (by omega)
  have q1 : v1 % ws.length < ws.length := Int.emod_lt_of_pos _ (by omega)
  have x3' := set_ints (v := 1 + v2) (i := v1 % ws.length) g q0 q1
  have x4 := set_new0 M [.lst (ws.map D.int)] (.lst ((ws.set (v1 % ws.length).toNat (1 + v2)).map D.int))
  have h18 : (0 : Int) < ws.length ∧ (ws.length : Int) < 18446744073709551616 := by omega
  have hb : 0 < ws.length ∧ ws.length ≤ 8 := by omega
  clear hmm htn loop hm hl
  walk_at "dvh"
  by_cases hz : mx = 0
  · rw [if_pos hz]
    refine fin_ (ws.set (v1 % ws.length).toNat (1 + v2)) (fun y hy => ?_) (by rw [List.length_set]; exact hb.1) (by rw [List.length_set]; exact hb.2) ⟨1 + v2, List.mem_iff_getElem?.mpr ⟨(v1 % ws.length).toNat, List.getElem?_set_self (by omega)⟩, by omega⟩
    rcases List.mem_or_eq_of_mem_set hy with hy | rfl
    · exact hw y hy
    · omega
  · rw [if_neg hz]
    exact fin_ ws hw hb.1 hb.2 ⟨mx, m1, by have := (hw mx m1).1; omega⟩
/-! ### the shares -/
theorem sum_pos {ws : List Int} (h : Wts ws) (hp : ∃ w ∈ ws, 0 < w) : 0 < ws.sum := by
  induction ws with
  | nil => obtain ⟨w, hw, _⟩ := hp; cases hw
  | cons x r ih =>
    have nn : ∀ {l : List Int}, Wts l → 0 ≤ l.sum := by
      intro l
      induction l with
      | nil => intro _; simp
      | cons y l ihl =>
        intro h
        have h1 := (h y List.mem_cons_self).1
        have h2 := ihl fun z hz => h z (List.mem_cons_of_mem _ hz)
        rw [List.sum_cons]
        omega
    have hr : Wts r := fun z hz => h z (List.mem_cons_of_mem _ hz)
    have h1 := (h x List.mem_cons_self).1
    rw [List.sum_cons]
    obtain ⟨w, hw, h0⟩ := hp
    rcases List.mem_cons.mp hw with rfl | hw
    · have := nn hr
      omega
    · have := ih hr ⟨w, hw, h0⟩
      omega
theorem sum_le {ws : List Int} (h : Wts ws) : ws.sum ≤ 1000000000 * ws.length := by
  induction ws with
  | nil => simp
  | cons x r ih =>
    have h1 := (h x List.mem_cons_self).2
    have h2 := ih fun z hz => h z (List.mem_cons_of_mem _ hz)
    rw [List.sum_cons, List.length_cons]
    omega
def flo (a W : Int) (ws : List Int) : List Int := ws.map fun w => a * w / W
def rst (a W : Int) (ws : List Int) : List Int := ws.map fun w => a * w % W
theorem flo_rst (a W : Int) : ∀ l : List Int, a * l.sum = W * (flo a W l).sum + (rst a W l).sum
  | [] => by simp [flo, rst]
  | w :: r => by
    have h := flo_rst a W r
    have e := Int.mul_ediv_add_emod (a * w) W
    unfold flo rst at h ⊢
    rw [List.map_cons, List.map_cons, List.sum_cons, List.sum_cons, List.sum_cons, Int.mul_add, Int.mul_add, h]
    omega
theorem rst_len (a W : Int) (l : List Int) : (rst a W l).length = l.length := by unfold rst; rw [List.length_map]
theorem flo_len (a W : Int) (l : List Int) : (flo a W l).length = l.length := by unfold flo; rw [List.length_map]
theorem rst_bd {a W : Int} (hW : 0 < W) {l : List Int} : ∀ x ∈ rst a W l, 0 ≤ x ∧ x < W := fun x hx => by
  unfold rst at hx
  obtain ⟨w, _, rfl⟩ := List.mem_map.mp hx
  exact ⟨Int.emod_nonneg _ (by omega), Int.emod_lt_of_pos _ hW⟩
theorem sum_bd {W : Int} : ∀ {l : List Int}, (∀ x ∈ l, 0 ≤ x ∧ x < W) → 0 ≤ l.sum ∧ l.sum ≤ (W - 1) * l.length
  | [], _ => by simp
  | x :: r, h => by
    obtain ⟨h1, h2⟩ := sum_bd (l := r) fun y hy => h y (List.mem_cons_of_mem _ hy)
    have := h x List.mem_cons_self
    rw [List.sum_cons, List.length_cons, Int.natCast_succ, Int.mul_add]
    omega
theorem left_bd {a : Int} {ws : List Int} (hW : 0 < ws.sum) (h1 : 0 < ws.length) : ws.sum * (a - (flo a ws.sum ws).sum) = (rst a ws.sum ws).sum ∧ 0 ≤ a - (flo a ws.sum ws).sum ∧ a - (flo a ws.sum ws).sum < ws.length := by
  have h := flo_rst a ws.sum ws
  obtain ⟨b1, b2⟩ := sum_bd (rst_bd (a := a) hW (l := ws))
  rw [rst_len] at b2
  have e : ws.sum * (a - (flo a ws.sum ws).sum) = (rst a ws.sum ws).sum := by
    rw [Int.mul_sub, Int.mul_comm ws.sum a]
    omega
  refine ⟨e, ?_, ?_⟩
  · rcases Int.lt_or_le (a - (flo a ws.sum ws).sum) 0 with h0 | h0
    · have := Int.mul_neg_of_pos_of_neg hW h0
      omega
    · exact h0
  · rcases Int.lt_or_le (a - (flo a ws.sum ws).sum) ws.length with h0 | h0
    · exact h0
    · have h2 := Int.mul_le_mul_of_nonneg_left h0 (Int.le_of_lt hW)
      rw [e] at h2
      rw [Int.sub_mul] at b2
      omega
def ord (rs : List Int) : List (Int × Int) := (List.range rs.length).map fun k => (-(rs.getD k 0), (k : Int))
def bump (ps : List Int) (i : Int) : List Int := ps.set i.toNat (ps.getD i.toNat 0 + 1)
theorem bump_len (ps : List Int) (i : Int) : (bump ps i).length = ps.length := by unfold bump; rw [List.length_set]
def bumps (ps : List Int) (l : List (Int × Int)) : List Int := l.foldl (fun ps p => bump ps p.2) ps
theorem bumps_len (l : List (Int × Int)) : ∀ ps : List Int, (bumps ps l).length = ps.length := by
  induction l with
  | nil => intro ps; rfl
  | cons p r ih =>
    intro ps
    show (bumps (bump ps p.2) r).length = _
    rw [ih, bump_len]
def shr (a : Int) (ws : List Int) : List Int := bumps (flo a ws.sum ws) ((sortP (ord (rst a ws.sum ws))).take (a - (flo a ws.sum ws).sum).toNat)
theorem ord_len (rs : List Int) : (ord rs).length = rs.length := by unfold ord; simp
theorem ord_mem {rs : List Int} {p : Int × Int} (h : p ∈ ord rs) : ∃ k, k < rs.length ∧ p = (-(rs.getD k 0), (k : Int)) := by
  unfold ord at h
  obtain ⟨k, hk, rfl⟩ := List.mem_map.mp h
  exact ⟨k, by simpa using hk, rfl⟩
def shB : S := (.cons (.asg (.nm 8) (.idx (.idx (.var 6) (.var 7)) (.int 1))) (.cons (.asg (.sub (.var 3) (.var 8)) (.bin .add (.idx (.var 3) (.var 8)) (.int 1))) .nil))
theorem sh_turn {G : Gl} {cl : Cl} {x0 x1 x2 x4 x5 x8 x9 : Option D} {M : Store} {ps : List Int} {L : List (Int × Int)} {o1 o2 : Ob} {i : Nat} {p : Int × Int} (hp : L[i]? = some p) (h0 : 0 ≤ p.2) (h1 : p.2 < ps.length) :
    Ws (exS G cl shB none [x0, x1, x2, some (.loc M.length), x4, x5, some (.loc (M.length + 3)), some (.int (i : Int)), x8, x9] (M ++ [.lst (ps.map D.int), o1, o2, .lst (L.map pairD)]))
      (fun e M1 => M1 = M ++ [.lst ((bump ps p.2).map D.int), o1, o2, .lst (L.map pairD)] ∧ e = [x0, x1, x2, some (.loc M.length), x4, x5, some (.loc (M.length + 3)), some (.int (i : Int)), some (.int p.2), x9]) (fun _ _ => False) (fun _ _ _ _ => False) := by
  have g3 : (M ++ [Ob.lst (ps.map D.int), o1, o2, .lst (L.map pairD)])[M.length + 3]? = some (.lst (L.map pairD)) := get_new M _ 3
  have g0 : (M ++ [Ob.lst (ps.map D.int), o1, o2, .lst (L.map pairD)])[M.length]? = some (.lst (ps.map D.int)) := get_new0 M _
  have e1 := idx_lst (k := i) (d := pairD p) g3 (by rw [List.getElem?_map, hp]; rfl)
  have e2 := idx_pair1 (M ++ [Ob.lst (ps.map D.int), o1, o2, .lst (L.map pairD)]) p
  obtain ⟨v, e3, e4⟩ := idx_ints g0 h0 h1
  have e5 := set_ints (v := v + 1) g0 h0 h1
  have e6 := set_new0 M [Ob.lst (ps.map D.int), o1, o2, .lst (L.map pairD)] (.lst ((ps.set p.2.toNat (v + 1)).map D.int))
  have e7 : bump ps p.2 = ps.set p.2.toNat (v + 1) := by
    unfold bump
    rw [List.getD_eq_getElem?_getD, e3]
    rfl
  rw [e7]
  unfold shB
  walk_at "dvh"
theorem share_ok {G : Gl} {P : Nat → Option Def} (hP : P 186 = some Bd.f186) (n : Nat) {amount : Int} {wl : Nat} {ws : List Int} {M : Store} (ha : -1000000000 < amount ∧ amount < 1000000000) (hM : M[wl]? = some (.lst (ws.map D.int))) (hw : Wts ws) (h1 : 0 < ws.length) (h8 : ws.length ≤ 8) (hp : ∃ w ∈ ws, 0 < w) :
    Wp (callN G P (n + 1) 186 [.int amount, .loc wl] M) (fun d M1 => d = .loc M.length ∧ M1 = M ++ [.lst ((shr amount ws).map D.int)]) (fun _ _ _ => False) := by
  have hW := sum_pos hw hp
  have hW2 := sum_le hw
  refine wp_call hP rfl ?_
  obtain ⟨mi, e1, i1, i2⟩ := minI_spec (xs := ws) (by intro z; rw [z] at h1; cases h1)
  obtain ⟨mx, e2, x1, x2⟩ := maxI_spec (xs := ws) (by intro z; rw [z] at h1; cases h1)
  have g1 := min_ints hM e1
  have g2 := max_ints hM e2
  have g3 := sum_ints hM
  have tr := truD_lst hM
  have tr2 : (!(ws.map D.int).isEmpty) = true := by
    cases ws with
    | nil => cases h1
    | cons _ _ => rfl
  have l1 : ¬ mi < 0 := by have := (hw mi i1).1; omega
  have l2 : ¬ mx = 0 := by
    obtain ⟨w, hw', h0⟩ := hp
    have := x2 w hw'
    omega
  have sr := srcOf_lst hM
  unfold Bd.f186
  rw [ws_cons]
  walk_at "st"
  -- whole, parts
  rw [ws_cons]
  walk_at "st"
  rw [ws_cons]
  have hWb : 0 < ws.sum ∧ ws.sum < 18446744073709551616 := by omega
  have ml : ∀ w : Int, (-18446744073709551616 < amount ∧ amount < 18446744073709551616) := fun _ => by omega
  have ml := ml 0
  walk_at "st"
  rw [comp_g D.int (fun w => D.int (amount * w / ws.sum)) (stands_lst hM) (by omega) fun w hw' => by
    walk_at "st"]
  have f1 : (ws.map fun w => D.int (amount * w / ws.sum)) = (flo amount ws.sum ws).map D.int := by unfold flo; rw [List.map_map]; rfl
  have f2 : (ws.map fun w => D.int (amount * w % ws.sum)) = (rst amount ws.sum ws).map D.int := by unfold rst; rw [List.map_map]; rfl
  rw [f1]
  have q1 : (((flo amount ws.sum ws).map D.int).length ≤ 1000000) := by unfold flo; rw [List.length_map, List.length_map]; omega
  have l1 := lstG_ok (M := M) q1
  walk_at "st"
  -- rests
  rw [ws_cons]
  have hM1 := fun l : Store => get_old (l := l) hM
  have sr1 := fun l : Store => srcOf_lst (hM1 l)
  walk_at "st"
  rw [comp_g D.int (fun w => D.int (amount * w % ws.sum)) (stands_lst (hM1 _)) (by omega) fun w hw' => by
    walk_at "st"]
  rw [f2]
  have q2 : (((rst amount ws.sum ws).map D.int).length ≤ 1000000) := by unfold rst; rw [List.length_map, List.length_map]; omega
  have l2 := lstG_ok (M := M ++ [Ob.lst ((flo amount ws.sum ws).map D.int)]) q2
  walk_at "st"
  simp only [List.append_assoc, List.length_append, List.length_singleton, List.cons_append, List.nil_append]
  -- left
  have g4 : ∀ l : Store, (M ++ (Ob.lst ((flo amount ws.sum ws).map D.int) :: l))[M.length]? = some (.lst ((flo amount ws.sum ws).map D.int)) := fun l => get_new0 M _
  have g5 : ∀ (o : Ob) (l : Store), (M ++ (o :: Ob.lst ((rst amount ws.sum ws).map D.int) :: l))[M.length + 1]? = some (.lst ((rst amount ws.sum ws).map D.int)) := fun o l => get_new M _ 1
  have s4 := fun l : Store => sum_ints (g4 l)
  rw [ws_cons]
  walk_at "st"
  generalize hL : amount - (flo amount ws.sum ws).sum = left
  -- order
  rw [ws_cons]
  have n1 := fun l : Store => len_ints (hM1 l)
  have n2 : -4611686018427387904 ≤ (ws.length : Int) ∧ (ws.length : Int) < 4611686018427387904 := by omega
  walk_at "st"
  have tn : (ws.length : Int).toNat = (rst amount ws.sum ws).length := by rw [rst_len]; omega
  rw [tn]
  rw [comp_g (fun (i : Nat) => D.int (i : Int)) (fun k => pairD (-((rst amount ws.sum ws).getD k 0), (k : Int))) (stands_its _ _) (by rw [List.length_range, rst_len]; omega) fun k hk => by
    have hk : k < (rst amount ws.sum ws).length := by simpa using hk
    obtain ⟨v, e1, e2⟩ := idx_ints (i := (k : Int)) (g5 (Ob.lst ((flo amount ws.sum ws).map D.int)) []) (by omega) (by omega)
    have e1 : (rst amount ws.sum ws)[k]? = some v := e1
    have e3 : (rst amount ws.sum ws).getD k 0 = v := by rw [List.getD_eq_getElem?_getD, e1]; rfl
    have sz : 2 ≤ sizeLine := by rw [sizeLine_val]; omega
    rw [e3]
    walk_at "st"
    rfl]
  have f3 : ((List.range (rst amount ws.sum ws).length).map fun k => pairD (-((rst amount ws.sum ws).getD k 0), (k : Int))) = (ord (rst amount ws.sum ws)).map pairD := by unfold ord; rw [List.map_map]; rfl
  rw [f3]
  have q3 : ((ord (rst amount ws.sum ws)).map pairD).length ≤ 1000000 := by unfold ord; rw [List.length_map, List.length_map, List.length_range, rst_len]; omega
  have l3 := lstG_ok (M := M ++ [Ob.lst ((flo amount ws.sum ws).map D.int), Ob.lst ((rst amount ws.sum ws).map D.int)]) q3
  have ne : ord (rst amount ws.sum ws) ≠ [] := by
    intro z
    have z := congrArg List.length z
    unfold ord at z
    rw [List.length_map, List.length_range, rst_len] at z
    simp at z
    rw [z] at h1
    cases h1
  have g6 := get_new0 (M ++ [Ob.lst ((flo amount ws.sum ws).map D.int), Ob.lst ((rst amount ws.sum ws).map D.int)]) [Ob.lst ((ord (rst amount ws.sum ws)).map pairD)]
  have l4 := sorted_pairs g6 ne
  walk_at "st"
  simp only [List.append_assoc, List.length_append, List.length_cons, List.length_nil, List.cons_append, List.nil_append, Nat.zero_add, Nat.reduceAdd, Nat.add_assoc]
  obtain ⟨b0, b1, b2⟩ := left_bd (a := amount) hW h1
  rw [hL] at b1 b2
  have hlt : left.toNat ≤ (sortP (ord (rst amount ws.sum ws))).length := by
    rw [(sortP_perm _).length_eq, ord_len, rst_len]
    omega
  have n3 : -4611686018427387904 ≤ left ∧ left < 4611686018427387904 := by omega
  rw [ws_cons]
  walk_at "st"
  refine Ws.mono (ws_for (N := fun e M1 => ∃ x7 x8, M1 = M ++ [.lst ((shr amount ws).map D.int), Ob.lst (List.map D.int (rst amount ws.sum ws)), Ob.lst (List.map pairD (ord (rst amount ws.sum ws))), Ob.lst (List.map pairD (sortP (ord (rst amount ws.sum ws))))] ∧ e = [some (D.int amount), some (D.loc wl), some (D.int ws.sum), some (D.loc (List.length M)), some (D.loc (List.length M + 1)), some (D.int left), some (D.loc (List.length M + 3)), x7, x8, none]) (R := fun _ _ => False) (XS := fun _ _ _ _ => False)
    (fun i e M1 => ∃ x7 x8, M1 = M ++ [.lst ((bumps (flo amount ws.sum ws) ((sortP (ord (rst amount ws.sum ws))).take i)).map D.int), Ob.lst (List.map D.int (rst amount ws.sum ws)), Ob.lst (List.map pairD (ord (rst amount ws.sum ws))), Ob.lst (List.map pairD (sortP (ord (rst amount ws.sum ws))))] ∧ e = [some (D.int amount), some (D.loc wl), some (D.int ws.sum), some (D.loc (List.length M)), some (D.loc (List.length M + 1)), some (D.int left), some (D.loc (List.length M + 3)), x7, x8, none]) ⟨none, none, rfl, rfl⟩ ?_ ?_) ?_ (fun _ _ h => h.elim) (fun _ _ _ _ h => h.elim)
  · rintro i x e M1 hx ⟨x7, x8, rfl, rfl⟩
    obtain ⟨hi, rfl⟩ := range_get hx
    refine ⟨stands_its _ _, _, rfl, ?_⟩
    have hl : i < (sortP (ord (rst amount ws.sum ws))).length := by omega
    have hp := List.getElem?_eq_getElem hl
    obtain ⟨k, k1, k2⟩ := ord_mem ((sortP_perm _).mem_iff.mp (List.getElem_mem hl))
    have e2 : (sortP (ord (rst amount ws.sum ws)))[i].2 = (k : Int) := by rw [k2]
    rw [rst_len] at k1
    refine (sh_turn (x0 := some (D.int amount)) (x1 := some (D.loc wl)) (x2 := some (D.int ws.sum)) (x4 := some (D.loc (List.length M + 1))) (x5 := some (D.int left)) (x8 := x8) (x9 := none) hp (by rw [e2]; omega) (by rw [bumps_len, flo_len, e2]; omega)).mono (fun e M1 ⟨h1, h2⟩ => ⟨_, _, ?_, h2⟩) (fun _ _ h => h) fun _ _ _ _ h => h
    rw [h1, List.take_succ, hp]
    unfold bumps
    rw [List.foldl_append]
    rfl
  · rintro e M1 ⟨x7, x8, rfl, rfl⟩
    rw [range_len]
    refine ⟨stands_its _ _, x7, x8, ?_, rfl⟩
    unfold shr
    rw [hL]
  · rintro e M1 ⟨x7, x8, rfl, rfl⟩
    have := fin_list (M := M) (l := [.lst ((shr amount ws).map D.int), Ob.lst (List.map D.int (rst amount ws.sum ws)), Ob.lst (List.map pairD (ord (rst amount ws.sum ws))), Ob.lst (List.map pairD (sortP (ord (rst amount ws.sum ws))))]) (k := 0) rfl (undL_ints (shr amount ws))
    rw [Nat.add_zero] at this
    walk_at "dvh"
/-! ### the refusals -/
structure GX (G : Gl) : Prop where
  i0 : G.isc 0 = true
  i1 : G.isc 1 = true
  i2 : G.isc 2 = true
  i3 : G.isc 3 = true
  s0 : G.sub 2 0 = true
  s1 : G.sub 2 1 = false
  s2 : G.sub 2 2 = true
  s3 : G.sub 2 3 = false
  x2 : G.exi 2 = none
theorem rai2 {G : Gl} (g : GX G) {e : Env} {M : Store} (z : D) : raiE G 2 [z] e M = .exc 2 [] e M := by
  unfold raiE
  rw [g.x2]
  rfl
def BadW (ws : List Int) : Prop := ws = [] ∨ (∃ mi, minI ws = some mi ∧ mi < 0) ∨ ∃ mi, minI ws = some mi ∧ ¬ mi < 0 ∧ maxI ws = some 0
theorem share_bad {G : Gl} {P : Nat → Option Def} (g : GX G) (hP : P 186 = some Bd.f186) (n : Nat) {amount : Int} {wl : Nat} {ws : List Int} {M : Store} (hM : M[wl]? = some (.lst (ws.map D.int))) (hb : BadW ws) :
    Wp (callN G P (n + 1) 186 [.int amount, .loc wl] M) (fun _ _ => False) (fun c fs M1 => c = 2 ∧ fs = [] ∧ M1 = M) := by
  refine wp_call hP rfl ?_
  have tr := truD_lst hM
  have rr := fun e M => rai2 g (e := e) (M := M) (.str "weights")
  have oo : oldOk M M = true := by have := oldOk_app M []; rwa [List.append_nil] at this
  unfold Bd.f186
  rw [ws_cons]
  rcases hb with rfl | ⟨mi, e1, l1⟩ | ⟨mi, e1, l1, e2⟩
  · walk_at "st"
    rw [ws_cons]
    walk_at "st"
    exact ⟨rfl, List.take_length⟩
  · have ne : (!(ws.map D.int).isEmpty) = true := by
      cases ws with
      | nil => cases e1
      | cons _ _ => rfl
    have g1 := min_ints hM e1
    walk_at "st"
    rw [ws_cons]
    walk_at "st"
    exact ⟨rfl, List.take_length⟩
  · have ne : (!(ws.map D.int).isEmpty) = true := by
      cases ws with
      | nil => cases e1
      | cons _ _ => rfl
    have g1 := min_ints hM e1
    have g2 := max_ints hM e2
    walk_at "st"
    rw [ws_cons]
    walk_at "st"
    exact ⟨rfl, List.take_length⟩
theorem refused_ok {G : Gl} {P : Nat → Option Def} (g : GX G) (hP : P 186 = some Bd.f186) (hP2 : P 187 = some Bd.f187) (n : Nat) {amount : Int} {wl : Nat} {ws : List Int} {M : Store} (hM : M[wl]? = some (.lst (ws.map D.int))) (hb : BadW ws) :
    Wp (callN G P (n + 2) 187 [.int amount, .loc wl] M) (fun d M1 => d = .bl true ∧ M1 = M) NoX := by
  refine wp_call hP2 rfl ?_
  obtain ⟨i0, i1, i2, i3, s0, s1, s2, s3, x2⟩ := g
  have j1 := fun M : Store => isx_eq (M := M) (k := 2) i1
  have j2 := fun M : Store => isx_eq (M := M) (k := 2) i2
  have j3 := fun M : Store => isx_eq (M := M) (k := 2) i3
  unfold Bd.f187
  rw [ws_cons]
  walk_at "st"
  rw [ws_cons]
  walk_at "st"
  refine Wp.mono (share_bad ⟨i0, i1, i2, i3, s0, s1, s2, s3, x2⟩ hP n (amount := amount) hM hb) (fun _ _ h => h.elim) ?_
  rintro c fs M1 ⟨rfl, rfl, rfl⟩
  rw [ws_cons]
  have ff := fin_flat0 (M := M1) (d := .bl true) rfl
  walk_at "st"
/-! ### the parts that the law makes -/
/-- the rests behind the first picks -/
def lef (rs : List Int) (l : List (Int × Int)) : List Int := l.foldl (fun rs p => rs.set p.2.toNat (-1)) rs
theorem lef_len (l : List (Int × Int)) : ∀ rs : List Int, (lef rs l).length = rs.length := by
  induction l with
  | nil => intro rs; rfl
  | cons p r ih =>
    intro rs
    show (lef (rs.set p.2.toNat (-1)) r).length = _
    rw [ih, List.length_set]
theorem lef_get (l : List (Int × Int)) : ∀ (rs : List Int) (k : Nat), k < rs.length → (lef rs l)[k]? = if k ∈ l.map (fun p => p.2.toNat) then some (-1) else rs[k]? := by
  induction l with
  | nil => intro rs k hk; simp [lef]
  | cons p r ih =>
    intro rs k hk
    show (lef (rs.set p.2.toNat (-1)) r)[k]? = _
    rw [ih _ k (by rw [List.length_set]; exact hk), List.map_cons]
    by_cases h : k ∈ r.map fun p => p.2.toNat
    · rw [if_pos h, if_pos (List.mem_cons_of_mem _ h)]
    · rw [if_neg h]
      by_cases e : k = p.2.toNat
      · rw [if_pos (by rw [e]; exact List.mem_cons_self), e, List.getElem?_set_self (by rw [← e]; exact hk)]
      · rw [if_neg (by
          intro z
          rcases List.mem_cons.mp z with z | z
          · exact e z
          · exact h z), List.getElem?_set_ne (Ne.symm e)]
theorem ord_nd (rs : List Int) : ((ord rs).map fun p => p.2.toNat).Nodup := by
  unfold ord
  rw [List.map_map]
  have : ((fun p : Int × Int => p.2.toNat) ∘ fun (k : Nat) => (-(rs.getD k 0), (k : Int))) = id := by funext k; simp
  rw [this, List.map_id]
  exact List.nodup_range
/-- the next pick -/
theorem pick {rs : List Int} (h0 : ∀ x ∈ rs, 0 ≤ x) {i : Nat} {p : Int × Int} (hp : (sortP (ord rs))[i]? = some p) : ∃ m, maxI (lef rs ((sortP (ord rs)).take i)) = some m ∧ (lef rs ((sortP (ord rs)).take i))[p.2.toNat]? = some m ∧
    (∀ j, j < p.2.toNat → (lef rs ((sortP (ord rs)).take i))[j]? ≠ some m) ∧ 0 ≤ p.2 ∧ p.2 < rs.length := by
  have perm := sortP_perm (ord rs)
  have srt := sortP_sorted (ord rs)
  obtain ⟨hi, hpi⟩ := List.getElem?_eq_some_iff.mp hp
  have nd : ((sortP (ord rs)).map fun p => p.2.toNat).Nodup := (perm.map _).nodup_iff.mpr (ord_nd rs)
  obtain ⟨k0, hk0, ep⟩ := ord_mem (perm.mem_iff.mp (List.mem_of_getElem? hp))
  have e2 : p.2.toNat = k0 := by rw [ep]; simp
  have uniq : ∀ a b (ha : a < (sortP (ord rs)).length) (hb : b < (sortP (ord rs)).length), (sortP (ord rs))[a].2.toNat = (sortP (ord rs))[b].2.toNat → a = b := fun a b ha hb e => by
    have h := (List.getElem_inj (xs := (sortP (ord rs)).map fun p => p.2.toNat) (h₀ := by simpa using ha) (h₁ := by simpa using hb) nd).mp (by simpa using e)
    exact h
  have mem_take : ∀ a, a < i → ∀ ha : a < (sortP (ord rs)).length, (sortP (ord rs))[a].2.toNat ∈ ((sortP (ord rs)).take i).map fun p => p.2.toNat := fun a hai ha =>
    List.mem_map.mpr ⟨(sortP (ord rs))[a], List.mem_iff_getElem?.mpr ⟨a, by rw [List.getElem?_take_of_lt hai, List.getElem?_eq_getElem ha]⟩, rfl⟩
  have not_take : k0 ∉ ((sortP (ord rs)).take i).map fun p => p.2.toNat := fun hm => by
    obtain ⟨q, hq, eq⟩ := List.mem_map.mp hm
    obtain ⟨a, ha⟩ := List.mem_iff_getElem?.mp hq
    have hai : a < i := by
      have := (List.getElem?_eq_some_iff.mp ha).1
      rw [List.length_take] at this
      omega
    rw [List.getElem?_take_of_lt hai] at ha
    obtain ⟨ha1, ha2⟩ := List.getElem?_eq_some_iff.mp ha
    have := uniq a i ha1 hi (by rw [ha2, hpi, eq, e2])
    omega
  have v0 : (lef rs ((sortP (ord rs)).take i))[k0]? = some (rs.getD k0 0) := by
    rw [lef_get _ _ _ hk0, if_neg not_take, List.getD_eq_getElem?_getD, List.getElem?_eq_getElem hk0]
    rfl
  have r0 : 0 ≤ rs.getD k0 0 := by
    rw [List.getD_eq_getElem?_getD, List.getElem?_eq_getElem hk0]
    exact h0 _ (List.getElem_mem hk0)
  have all : ∀ j v, (lef rs ((sortP (ord rs)).take i))[j]? = some v → v ≤ rs.getD k0 0 ∧ (v = rs.getD k0 0 → k0 ≤ j) := fun j v hv => by
    have hj : j < rs.length := by
      have := (List.getElem?_eq_some_iff.mp hv).1
      rwa [lef_len] at this
    rw [lef_get _ _ _ hj] at hv
    by_cases hm : j ∈ ((sortP (ord rs)).take i).map fun p => p.2.toNat
    · rw [if_pos hm] at hv
      cases hv
      exact ⟨by omega, fun z => by omega⟩
    · rw [if_neg hm] at hv
      have ev : v = rs.getD j 0 := by rw [List.getD_eq_getElem?_getD, hv]; rfl
      have hq : (-(rs.getD j 0), (j : Int)) ∈ sortP (ord rs) := perm.mem_iff.mpr (by unfold ord; exact List.mem_map.mpr ⟨j, List.mem_range.mpr hj, rfl⟩)
      obtain ⟨a, ha⟩ := List.mem_iff_getElem?.mp hq
      obtain ⟨ha1, ha2⟩ := List.getElem?_eq_some_iff.mp ha
      have hai : i ≤ a := by
        rcases Nat.lt_or_ge a i with h | h
        · have := mem_take a h ha1
          rw [ha2] at this
          exact absurd (by simpa using this) hm
        · exact h
      rcases Nat.lt_or_ge i a with h | h
      · have le := List.pairwise_iff_getElem.mp srt i a hi ha1 h
        rw [ha2, hpi, ep] at le
        rcases le with le | ⟨le1, le2⟩
        · have le : -(rs.getD k0 0) < -(rs.getD j 0) := le
          exact ⟨by omega, fun z => by omega⟩
        · have le1 : -(rs.getD k0 0) = -(rs.getD j 0) := le1
          have le2 : (k0 : Int) ≤ j := le2
          exact ⟨by omega, fun z => by omega⟩
      · have ea : a = i := by omega
        subst ea
        rw [hpi, ep] at ha2
        have e3 : (k0 : Int) = j := congrArg Prod.snd ha2
        have e4 : k0 = j := by omega
        rw [ev, e4]
        exact ⟨Int.le_refl _, fun _ => Nat.le_refl _⟩
  obtain ⟨m, em, m1, m2⟩ := maxI_spec (xs := lef rs ((sortP (ord rs)).take i)) (by
    intro z
    rw [z] at v0
    simp at v0)
  obtain ⟨j, hj⟩ := List.mem_iff_getElem?.mp m1
  have em' : m = rs.getD k0 0 := by
    have := (all j m hj).1
    have := m2 _ (List.mem_of_getElem? v0)
    omega
  refine ⟨m, em, by rw [e2, v0, em'], fun a ha hv => ?_, by rw [ep]; simp, by rw [ep]; simpa using hk0⟩
  rw [e2] at ha
  have := (all a m hv).2 em'
  omega
def paB : S := (.cons (.ex (.bm .append (.var 3) (.cons (.bin .fdiv (.bi .int (.cons (.bin .mul (.var 0) (.var 5)) .nil)) (.var 2)) .nil))) (.cons (.ex (.bm .append (.var 4) (.cons (.bin .sub (.bin .mul (.var 0) (.var 5)) (.bin .mul (.idx (.var 3) (.neg (.int 1))) (.var 2))) .nil))) .nil))
def pbB : S := (.cons (.asg (.nm 7) (.bm .index (.var 4) (.cons (.bi .max (.cons (.var 4) .nil)) .nil))) (.cons (.asg (.sub (.var 3) (.var 7)) (.bin .add (.idx (.var 3) (.var 7)) (.int 1))) (.cons (.asg (.sub (.var 4) (.var 7)) (.neg (.int 1))) .nil)))
theorem idx_last {M : Store} {a : Nat} {xs : List D} {d : D} (h : M[a]? = some (.lst (xs ++ [d]))) : idxE M (.loc a) (.int (-1)) = some d := by
  show (match M[a]? with | some (.lst xs) => _ | some (.dct kvs) => _ | some (.dtt kvs) => _ | _ => none) = _
  rw [h]
  show atI (xs ++ [d]) (-1) = _
  unfold atI ixN
  rw [if_neg (by omega), if_pos (by simp; omega)]
  have : ((-1 : Int) + ((xs ++ [d]).length : Nat)).toNat = xs.length := by rw [List.length_append, List.length_singleton]; omega
  show (xs ++ [d])[((-1 : Int) + ((xs ++ [d]).length : Nat)).toNat]? = _
  rw [this]
  simp
theorem pb_turn {G : Gl} {cl : Cl} {x0 x1 x2 x5 x7 : Option D} {M : Store} {ps rs : List Int} {i k : Nat} {m : Int} (em : maxI rs = some m) (hk : rs[k]? = some m) (hj : ∀ j, j < k → rs[j]? ≠ some m) (hl : ps.length = rs.length) :
    Ws (exS G cl pbB none [x0, x1, x2, some (.loc M.length), some (.loc (M.length + 1)), x5, some (.int (i : Int)), x7] (M ++ [.lst (ps.map D.int), .lst (rs.map D.int)]))
      (fun e M1 => M1 = M ++ [.lst ((bump ps k).map D.int), .lst ((rs.set k (-1)).map D.int)] ∧ e = [x0, x1, x2, some (.loc M.length), some (.loc (M.length + 1)), x5, some (.int (i : Int)), some (.int (k : Int))]) (fun _ _ => False) (fun _ _ _ _ => False) := by
  have hk' := (List.getElem?_eq_some_iff.mp hk).1
  have g0 : (M ++ [Ob.lst (ps.map D.int), .lst (rs.map D.int)])[M.length]? = some (.lst (ps.map D.int)) := get_new0 M _
  have g1 : (M ++ [Ob.lst (ps.map D.int), .lst (rs.map D.int)])[M.length + 1]? = some (.lst (rs.map D.int)) := get_new M _ 1
  have e0 := (ty_lst g1).2.1
  have e1 := max_ints g1 em
  have e2 := index_ints g1 hk hj
  obtain ⟨v, e3, e4⟩ := idx_ints (i := (k : Int)) g0 (by omega) (by omega)
  have e3 : ps[k]? = some v := e3
  have e5 := set_ints (v := v + 1) (i := (k : Int)) g0 (by omega) (by omega)
  have e6 := set_new0 M [Ob.lst (ps.map D.int), .lst (rs.map D.int)] (.lst ((ps.set k (v + 1)).map D.int))
  have g2 : (M ++ [Ob.lst ((ps.set k (v + 1)).map D.int), .lst (rs.map D.int)])[M.length + 1]? = some (.lst (rs.map D.int)) := get_new M _ 1
  have e8 := set_ints (v := -1) (i := (k : Int)) g2 (by omega) (by omega)
  have e9 := set_new M [Ob.lst ((ps.set k (v + 1)).map D.int), .lst (rs.map D.int)] 1 (.lst ((rs.set k (-1)).map D.int))
  have e7 : bump ps k = ps.set k (v + 1) := by
    unfold bump
    rw [Int.toNat_natCast, List.getD_eq_getElem?_getD, e3]
    rfl
  rw [e7]
  simp only [Int.toNat_natCast] at e5 e8
  clear em hk hj hl
  unfold pbB
  walk_at "dvh"
theorem pa_turn {G : Gl} {cl : Cl} {x1 x5 x6 x7 : Option D} {M : Store} {ps rs : List Int} {a W w : Int} (ha : -1000000000 < a ∧ a < 1000000000) (hW : 0 < W ∧ W < 18446744073709551616) (hl : ps.length ≤ 1000) (hl2 : rs.length ≤ 1000) :
    Ws (exS G cl paB none [some (.int a), x1, some (.int W), some (.loc M.length), some (.loc (M.length + 1)), some (.int w), x6, x7] (M ++ [.lst (ps.map D.int), .lst (rs.map D.int)]))
      (fun e M1 => M1 = M ++ [.lst ((ps ++ [a * w / W]).map D.int), .lst ((rs ++ [a * w % W]).map D.int)] ∧ e = [some (.int a), x1, some (.int W), some (.loc M.length), some (.loc (M.length + 1)), some (.int w), x6, x7]) (fun _ _ => False) (fun _ _ _ _ => False) := by
  have g0 : (M ++ [Ob.lst (ps.map D.int), .lst (rs.map D.int)])[M.length]? = some (.lst (ps.map D.int)) := get_new0 M _
  have e0 := (ty_lst g0).1
  have e1 := fun x => app_get g0 (by rw [List.length_map, sizeLine_val]; omega) x
  have e2 := set_new0 M [Ob.lst (ps.map D.int), .lst (rs.map D.int)] (.lst (ps.map D.int ++ [D.int (a * w / W)]))
  have g1 : (M ++ [Ob.lst (ps.map D.int ++ [D.int (a * w / W)]), .lst (rs.map D.int)])[M.length + 1]? = some (.lst (rs.map D.int)) := get_new M _ 1
  have g2 : (M ++ [Ob.lst (ps.map D.int ++ [D.int (a * w / W)]), .lst (rs.map D.int)])[M.length]? = some (.lst (ps.map D.int ++ [D.int (a * w / W)])) := get_new0 M _
  have e3 := (ty_lst g1).1
  have e4 := fun x => app_get g1 (by rw [List.length_map, sizeLine_val]; omega) x
  have e5 := set_new M [Ob.lst (ps.map D.int ++ [D.int (a * w / W)]), .lst (rs.map D.int)] 1 (.lst (rs.map D.int ++ [D.int (a * w - a * w / W * W)]))
  have e6 := idx_last g2
  have e7 : a * w % W = a * w - a * w / W * W := by rw [Int.emod_def, Int.mul_comm W]
  have b1 : (-18446744073709551616 < a ∧ a < 18446744073709551616) := by omega
  have b2 : (-18446744073709551616 < W ∧ W < 18446744073709551616) := by omega
  rw [e7]
  clear e7 ha
  unfold paB
  walk_at "dvh"
  simp only [List.set_cons_zero, List.set_cons_succ, List.map_append, List.map_cons, List.map_nil]
theorem lef_snoc {rs : List Int} {L : List (Int × Int)} {i : Nat} {p : Int × Int} (h : L[i]? = some p) : lef rs (L.take (i + 1)) = (lef rs (L.take i)).set p.2.toNat (-1) := by
  rw [List.take_succ, h]
  unfold lef
  rw [List.foldl_append]
  rfl
theorem bumps_snoc {ps : List Int} {L : List (Int × Int)} {i : Nat} {p : Int × Int} (h : L[i]? = some p) : bumps ps (L.take (i + 1)) = bump (bumps ps (L.take i)) p.2 := by
  rw [List.take_succ, h]
  unfold bumps
  rw [List.foldl_append]
  rfl
theorem parts_ok {G : Gl} {P : Nat → Option Def} (hP : P 189 = some Bd.f189) (n : Nat) {amount : Int} {wl : Nat} {ws : List Int} {M : Store} (ha : -1000000000 < amount ∧ amount < 1000000000) (hM : M[wl]? = some (.lst (ws.map D.int))) (hw : Wts ws) (h1 : 0 < ws.length) (h8 : ws.length ≤ 8) (hp : ∃ w ∈ ws, 0 < w) :
    Wp (callN G P (n + 1) 189 [.int amount, .loc wl] M) (fun d M1 => d = .loc M.length ∧ M1 = M ++ [.lst ((shr amount ws).map D.int)]) NoX := by
  have hW := sum_pos hw hp
  have hW2 := sum_le hw
  have hWb : 0 < ws.sum ∧ ws.sum < 18446744073709551616 := by omega
  have g3 := sum_ints hM
  have l0 := lstG_ok (M := M) (xs := []) (Nat.zero_le _)
  have l1 := lstG_ok (M := M ++ [Ob.lst []]) (xs := []) (Nat.zero_le _)
  have hM1 := fun l : Store => get_old (l := l) hM
  have sr1 := fun l : Store => srcOf_lst (hM1 l)
  refine wp_call hP rfl ?_
  unfold Bd.f189
  rw [ws_cons]
  walk_at "st"
  rw [ws_cons]
  walk_at "st"
  rw [ws_cons]
  walk_at "st"
  simp only [List.append_assoc, List.length_append, List.length_singleton, List.cons_append, List.nil_append]
  rw [ws_cons]
  walk_at "st"
  refine Ws.mono (ws_for (N := fun e M1 => ∃ x5, M1 = M ++ [.lst ((flo amount ws.sum ws).map D.int), .lst ((rst amount ws.sum ws).map D.int)] ∧ e = [some (D.int amount), some (D.loc wl), some (D.int ws.sum), some (D.loc M.length), some (D.loc (M.length + 1)), x5, none, none]) (R := fun _ _ => False) (XS := fun _ _ _ _ => False)
    (fun i e M1 => ∃ x5, M1 = M ++ [.lst ((flo amount ws.sum (ws.take i)).map D.int), .lst ((rst amount ws.sum (ws.take i)).map D.int)] ∧ e = [some (D.int amount), some (D.loc wl), some (D.int ws.sum), some (D.loc M.length), some (D.loc (M.length + 1)), x5, none, none]) ⟨none, rfl, rfl⟩ ?_ ?_) ?_ (fun _ _ h => h.elim) (fun _ _ _ _ h => h.elim)
  · rintro i x e M1 hx ⟨x5, rfl, rfl⟩
    rw [List.getElem?_map] at hx
    cases q : ws[i]? with
    | none => rw [q] at hx; cases hx
    | some w =>
      rw [q] at hx
      cases hx
      refine ⟨stands_lst (hM1 _), _, rfl, ?_⟩
      have lf : (flo amount ws.sum (ws.take i)).length ≤ 1000 := by rw [flo_len, List.length_take]; omega
      have lr : (rst amount ws.sum (ws.take i)).length ≤ 1000 := by rw [rst_len, List.length_take]; omega
      refine (pa_turn (x1 := some (D.loc wl)) (x5 := none) (x6 := none) (x7 := none) (w := w) ha hWb lf lr).mono (fun e M1 ⟨h1, h2⟩ => ⟨_, ?_, h2⟩) (fun _ _ h => h) fun _ _ _ _ h => h
      rw [h1, List.take_succ, q]
      unfold flo rst
      simp only [List.map_append, Option.toList, List.map_cons, List.map_nil]
  · rintro e M1 ⟨x5, rfl, rfl⟩
    rw [List.length_map, List.take_length]
    exact ⟨stands_lst (hM1 _), x5, rfl, rfl⟩
  · rintro e M1 ⟨x5, rfl, rfl⟩
    have g0 : (M ++ [Ob.lst ((flo amount ws.sum ws).map D.int), .lst ((rst amount ws.sum ws).map D.int)])[M.length]? = some (.lst ((flo amount ws.sum ws).map D.int)) := get_new0 M _
    have s0 := sum_ints g0
    obtain ⟨b0, b1, b2⟩ := left_bd (a := amount) hW h1
    have n3 : -4611686018427387904 ≤ amount - (flo amount ws.sum ws).sum ∧ amount - (flo amount ws.sum ws).sum < 4611686018427387904 := by omega
    have hlt : (amount - (flo amount ws.sum ws).sum).toNat ≤ (sortP (ord (rst amount ws.sum ws))).length := by
      rw [(sortP_perm _).length_eq, ord_len, rst_len]
      omega
    rw [ws_cons]
    walk_at "st"
    refine Ws.mono (ws_for (N := fun e M1 => ∃ x6 x7, M1 = M ++ [.lst ((shr amount ws).map D.int), .lst ((lef (rst amount ws.sum ws) ((sortP (ord (rst amount ws.sum ws))).take (amount - (flo amount ws.sum ws).sum).toNat)).map D.int)] ∧ e = [some (D.int amount), some (D.loc wl), some (D.int ws.sum), some (D.loc M.length), some (D.loc (M.length + 1)), x5, x6, x7]) (R := fun _ _ => False) (XS := fun _ _ _ _ => False)
      (fun i e M1 => ∃ x6 x7, M1 = M ++ [.lst ((bumps (flo amount ws.sum ws) ((sortP (ord (rst amount ws.sum ws))).take i)).map D.int), .lst ((lef (rst amount ws.sum ws) ((sortP (ord (rst amount ws.sum ws))).take i)).map D.int)] ∧ e = [some (D.int amount), some (D.loc wl), some (D.int ws.sum), some (D.loc M.length), some (D.loc (M.length + 1)), x5, x6, x7]) ⟨none, none, rfl, rfl⟩ ?_ ?_) ?_ (fun _ _ h => h.elim) (fun _ _ _ _ h => h.elim)
    · rintro i x e M1 hx ⟨x6, x7, rfl, rfl⟩
      obtain ⟨hi, rfl⟩ := range_get hx
      refine ⟨stands_its _ _, _, rfl, ?_⟩
      have hl : i < (sortP (ord (rst amount ws.sum ws))).length := by omega
      have hp' := List.getElem?_eq_getElem hl
      obtain ⟨m, em, k1, k2, k3, k4⟩ := pick (fun x hx => (rst_bd hW x hx).1) hp'
      refine (pb_turn (x0 := some (D.int amount)) (x1 := some (D.loc wl)) (x2 := some (D.int ws.sum)) (x5 := x5) (x7 := x7) em k1 k2 (by rw [bumps_len, flo_len, lef_len, rst_len])).mono (fun e M1 ⟨h1, h2⟩ => ⟨_, _, ?_, h2⟩) (fun _ _ h => h) fun _ _ _ _ h => h
      have e9 : (((sortP (ord (rst amount ws.sum ws)))[i].2.toNat : Nat) : Int) = (sortP (ord (rst amount ws.sum ws)))[i].2 := by omega
      rw [h1, bumps_snoc hp', lef_snoc hp', e9]
    · rintro e M1 ⟨x6, x7, rfl, rfl⟩
      rw [range_len]
      exact ⟨stands_its _ _, x6, x7, rfl, rfl⟩
    · rintro e M1 ⟨x6, x7, rfl, rfl⟩
      have := fin_list (M := M) (l := [.lst ((shr amount ws).map D.int), .lst ((lef (rst amount ws.sum ws) ((sortP (ord (rst amount ws.sum ws))).take (amount - (flo amount ws.sum ws).sum).toNat)).map D.int)]) (k := 0) rfl (undL_ints (shr amount ws))
      rw [Nat.add_zero] at this
      walk_at "dvh"
/-! ### what the shares are -/
theorem bump_get {ps : List Int} {i k : Nat} (hk : k < ps.length) : (bump ps (i : Int))[k]? = if k = i then (ps[k]?).map (· + 1) else ps[k]? := by
  unfold bump
  rw [Int.toNat_natCast]
  by_cases h : k = i
  · subst h
    rw [if_pos rfl, List.getElem?_set_self hk, List.getD_eq_getElem?_getD, List.getElem?_eq_getElem hk]
    rfl
  · rw [if_neg h, List.getElem?_set_ne (Ne.symm h)]
theorem bumps_get : ∀ (l : List (Int × Int)) (ps : List Int) (k : Nat), (∀ p ∈ l, 0 ≤ p.2) → (l.map fun p => p.2.toNat).Nodup → k < ps.length →
    (bumps ps l)[k]? = if k ∈ l.map (fun p => p.2.toNat) then (ps[k]?).map (· + 1) else ps[k]?
  | [], ps, k, _, _, _ => by simp [bumps]
  | p :: r, ps, k, h0, nd, hk => by
    show (bumps (bump ps p.2) r)[k]? = _
    rw [List.map_cons] at nd
    obtain ⟨nd1, nd2⟩ := List.nodup_cons.mp nd
    have e : p.2 = ((p.2.toNat : Nat) : Int) := by have := h0 p List.mem_cons_self; omega
    rw [bumps_get r _ k (fun q hq => h0 q (List.mem_cons_of_mem _ hq)) nd2 (by rw [bump_len]; exact hk), e, bump_get hk, List.map_cons]
    by_cases h1 : k = p.2.toNat
    · subst h1
      rw [if_neg nd1, if_pos rfl, if_pos List.mem_cons_self]
    · rw [if_neg h1]
      by_cases h2 : k ∈ r.map fun p => p.2.toNat
      · rw [if_pos h2, if_pos (List.mem_cons_of_mem _ h2)]
      · rw [if_neg h2, if_neg (by
          intro z
          rcases List.mem_cons.mp z with z | z
          · exact h1 z
          · exact h2 z)]
theorem perm_sum {l m : List Int} (h : l.Perm m) : l.sum = m.sum := by
  induction h with
  | nil => rfl
  | cons x _ ih => rw [List.sum_cons, List.sum_cons, ih]
  | swap x y l => rw [List.sum_cons, List.sum_cons, List.sum_cons, List.sum_cons]; omega
  | trans _ _ h1 h2 => exact h1.trans h2
theorem ord_sum (rs : List Int) : ((ord rs).map fun p => -p.1).sum = rs.sum := by
  unfold ord
  rw [List.map_map]
  have : (List.range rs.length).map ((fun p : Int × Int => -p.1) ∘ fun (k : Nat) => (-(rs.getD k 0), (k : Int))) = rs := by
    apply List.ext_getElem?
    intro k
    rw [List.getElem?_map]
    by_cases h : k < rs.length
    · rw [List.getElem?_range h, List.getElem?_eq_getElem h]
      show some (- -(rs.getD k 0)) = _
      rw [List.getD_eq_getElem?_getD, List.getElem?_eq_getElem h]
      simp
    · rw [List.getElem?_eq_none (by simpa using h), List.getElem?_eq_none (by omega)]
      rfl
  rw [this]
theorem sum_nonpos : ∀ {l : List Int}, (∀ x ∈ l, x ≤ 0) → l.sum ≤ 0
  | [], _ => by simp
  | x :: r, h => by
    have h1 := h x List.mem_cons_self
    have h2 := sum_nonpos (l := r) fun y hy => h y (List.mem_cons_of_mem _ hy)
    rw [List.sum_cons]
    omega
/-- a pick has a rest -/
theorem pick_pos {rs : List Int} {W left : Int} (hb : ∀ x ∈ rs, 0 ≤ x ∧ x < W) (hl : W * left = rs.sum) {i : Nat} (hi : (i : Int) < left) {p : Int × Int} (hp : (sortP (ord rs))[i]? = some p) : p.1 < 0 := by
  have perm := sortP_perm (ord rs)
  have srt := sortP_sorted (ord rs)
  obtain ⟨hi', hpi⟩ := List.getElem?_eq_some_iff.mp hp
  have hs : ((sortP (ord rs)).map fun p => -p.1).sum = rs.sum := by rw [perm_sum (perm.map _), ord_sum]
  have el : ∀ q ∈ sortP (ord rs), 0 ≤ -q.1 ∧ -q.1 < W := fun q hq => by
    obtain ⟨k, hk, rfl⟩ := ord_mem (perm.mem_iff.mp hq)
    have := hb (rs.getD k 0) (by rw [List.getD_eq_getElem?_getD, List.getElem?_eq_getElem hk]; exact List.getElem_mem hk)
    simpa using this
  rcases Int.lt_or_le p.1 0 with h | h
  · exact h
  · have hd : (((sortP (ord rs)).drop i).map fun p => -p.1).sum ≤ 0 := sum_nonpos fun x hx => by
      obtain ⟨q, hq, rfl⟩ := List.mem_map.mp hx
      obtain ⟨j, hj⟩ := List.mem_iff_getElem?.mp hq
      rw [List.getElem?_drop] at hj
      obtain ⟨hj1, hj2⟩ := List.getElem?_eq_some_iff.mp hj
      rcases Nat.eq_zero_or_pos j with rfl | h0
      · have : q = p := by rw [← hj2, ← hpi]; rfl
        rw [this]
        omega
      · have le := List.pairwise_iff_getElem.mp srt i (i + j) hi' hj1 (by omega)
        rw [hpi, hj2] at le
        rcases le with le | ⟨le, _⟩ <;> omega
    have ht := (sum_bd (W := W) (l := ((sortP (ord rs)).take i).map fun p => -p.1) fun x hx => by
      obtain ⟨q, hq, rfl⟩ := List.mem_map.mp hx
      exact el q (List.mem_of_mem_take hq)).2
    rw [List.length_map, List.length_take, Nat.min_eq_left (by omega)] at ht
    have e := congrArg List.sum (List.map_append (f := fun p : Int × Int => -p.1) (l₁ := (sortP (ord rs)).take i) (l₂ := (sortP (ord rs)).drop i))
    rw [List.take_append_drop, List.sum_append, hs] at e
    have hW : 0 < W := by
      have := el p (List.mem_of_getElem? hp)
      omega
    have m1 := Int.mul_le_mul_of_nonneg_left (show (i : Int) + 1 ≤ left by omega) (Int.le_of_lt hW)
    rw [Int.mul_add] at m1
    rw [Int.sub_mul] at ht
    omega
theorem shr_len (a : Int) (ws : List Int) : (shr a ws).length = ws.length := by unfold shr; rw [bumps_len, flo_len]
theorem sum_set : ∀ {l : List Int} {k : Nat} {x v : Int}, l[k]? = some v → (l.set k x).sum = l.sum - v + x
  | [], k, _, _, h => by simp at h
  | y :: r, 0, x, v, h => by
    have h : y = v := by simpa using h
    rw [List.set_cons_zero, List.sum_cons, List.sum_cons]
    omega
  | y :: r, k + 1, x, v, h => by
    rw [List.set_cons_succ, List.sum_cons, List.sum_cons, sum_set (k := k) (by simpa using h)]
    omega
theorem bumps_sum : ∀ (l : List (Int × Int)) (ps : List Int), (∀ p ∈ l, 0 ≤ p.2 ∧ p.2 < ps.length) → (bumps ps l).sum = ps.sum + l.length
  | [], ps, _ => by simp [bumps]
  | p :: r, ps, h => by
    obtain ⟨h0, h1⟩ := h p List.mem_cons_self
    show (bumps (bump ps p.2) r).sum = _
    have hk : p.2.toNat < ps.length := by omega
    rw [bumps_sum r _ fun q hq => by rw [bump_len]; exact h q (List.mem_cons_of_mem _ hq), List.length_cons]
    have : (bump ps p.2).sum = ps.sum + 1 := by
      unfold bump
      have e := List.getElem?_eq_getElem hk
      rw [sum_set e, List.getD_eq_getElem?_getD, e]
      show ps.sum - ps[p.2.toNat] + (ps[p.2.toNat] + 1) = _
      omega
    omega
theorem take_mem {rs : List Int} {i : Nat} {p : Int × Int} (h : p ∈ (sortP (ord rs)).take i) : 0 ≤ p.2 ∧ p.2 < rs.length := by
  obtain ⟨k, hk, rfl⟩ := ord_mem ((sortP_perm (ord rs)).mem_iff.mp (List.mem_of_mem_take h))
  exact ⟨by simp, by simpa using hk⟩
theorem shr_sum {a : Int} {ws : List Int} (hW : 0 < ws.sum) (h1 : 0 < ws.length) : (shr a ws).sum = a := by
  obtain ⟨b0, b1, b2⟩ := left_bd (a := a) hW h1
  unfold shr
  rw [bumps_sum _ _ fun p hp => by rw [flo_len]; have := take_mem hp; rw [rst_len] at this; exact this, List.length_take, (sortP_perm _).length_eq, ord_len, rst_len, Nat.min_eq_left (by omega)]
  omega
theorem shr_get {a : Int} {ws : List Int} (hW : 0 < ws.sum) (h1 : 0 < ws.length) {k : Nat} {w : Int} (hk : ws[k]? = some w) : ∃ v, (shr a ws)[k]? = some v ∧ (v * ws.sum - a * w < ws.sum ∧ -(v * ws.sum - a * w) < ws.sum) ∧ (w = 0 → v = 0) := by
  obtain ⟨b0, b1, b2⟩ := left_bd (a := a) hW h1
  have hk' := (List.getElem?_eq_some_iff.mp hk).1
  have nd : (((sortP (ord (rst a ws.sum ws))).take (a - (flo a ws.sum ws).sum).toNat).map fun p => p.2.toNat).Nodup := by
    rw [List.map_take]
    exact List.Nodup.sublist (List.take_sublist _ _) (((sortP_perm _).map _).nodup_iff.mpr (ord_nd _))
  have fk : (flo a ws.sum ws)[k]? = some (a * w / ws.sum) := by unfold flo; rw [List.getElem?_map, hk]; rfl
  have e := Int.mul_ediv_add_emod (a * w) ws.sum
  have m0 := Int.emod_nonneg (a * w) (show ws.sum ≠ 0 by omega)
  have m1 := Int.emod_lt_of_pos (a * w) hW
  rw [Int.mul_comm ws.sum] at e
  unfold shr
  rw [bumps_get _ _ k (fun p hp => (take_mem hp).1) nd (by rw [flo_len]; exact hk'), fk]
  by_cases hm : k ∈ ((sortP (ord (rst a ws.sum ws))).take (a - (flo a ws.sum ws).sum).toNat).map fun p => p.2.toNat
  · rw [if_pos hm]
    obtain ⟨p, hp, ep⟩ := List.mem_map.mp hm
    obtain ⟨i, hi⟩ := List.mem_iff_getElem?.mp hp
    have hi' : i < (a - (flo a ws.sum ws).sum).toNat := by
      have := (List.getElem?_eq_some_iff.mp hi).1
      rw [List.length_take] at this
      omega
    rw [List.getElem?_take_of_lt hi'] at hi
    have pos := pick_pos (rst_bd (a := a) hW (l := ws)) b0 (i := i) (by omega) hi
    obtain ⟨j, hj, rfl⟩ := ord_mem ((sortP_perm _).mem_iff.mp (List.mem_of_getElem? hi))
    have ejk : j = k := by simpa using ep
    subst ejk
    have er : (rst a ws.sum ws).getD j 0 = a * w % ws.sum := by
      rw [List.getD_eq_getElem?_getD]
      unfold rst
      rw [List.getElem?_map, hk]
      rfl
    have pos : -((rst a ws.sum ws).getD j 0) < 0 := pos
    rw [er] at pos
    refine ⟨a * w / ws.sum + 1, rfl, ?_, fun z => ?_⟩
    · rw [Int.add_mul]
      omega
    · subst z
      simp at pos
  · rw [if_neg hm]
    refine ⟨a * w / ws.sum, rfl, by omega, fun z => ?_⟩
    subst z
    simp
/-! ### the law -/
def lwT : S := (.cons (.asg (.nm 4) (.bi .list (.cons (.var 2) .nil))) (.cons (.asg (.nm 5) (.cal 186 (.cons (.var 3) (.cons (.var 4) .nil)))) (.cons (.ite (.or (.not (.isi (.var 5) .list)) (.or (.cmp .ne (.bi .len (.cons (.var 5) .nil)) (.bi .len (.cons (.var 2) .nil))) (.cmp .ne (.var 4) (.var 2)))) (.cons (.ret (.bl false)) .nil) .nil) (.cons (.asg (.nm 6) (.bi .sum (.cons (.var 2) .nil))) (.cons (.for_ [7] true (.rng (.cons (.bi .len (.cons (.var 2) .nil)) .nil)) (.cons (.ite (.or (.not (.cal 14 (.cons (.idx (.var 5) (.var 7)) .nil))) (.cmp .ge (.bi .abs (.cons (.bin .sub (.bin .mul (.idx (.var 5) (.var 7)) (.var 6)) (.bin .mul (.var 3) (.idx (.var 2) (.var 7)))) .nil)) (.var 6))) (.cons (.ret (.bl false)) .nil) .nil) (.cons (.ite (.and (.cmp .eq (.idx (.var 2) (.var 7)) (.int 0)) (.cmp .ne (.idx (.var 5) (.var 7)) (.int 0))) (.cons (.ret (.bl false)) .nil) .nil) .nil))) (.cons (.ite (.or (.cmp .ne (.bi .sum (.cons (.var 5) .nil)) (.var 3)) (.cmp .ne (.var 5) (.cal 189 (.cons (.var 3) (.cons (.var 2) .nil))))) (.cons (.ret (.bl false)) .nil) .nil) (.cons (.ret (.and (.cal 187 (.cons (.var 3) (.cons (.lst .nil) .nil))) (.and (.cal 187 (.cons (.var 3) (.cons (.lst (.cons (.int 0) (.cons (.int 0) .nil))) .nil))) (.cal 187 (.cons (.var 3) (.cons (.lst (.cons (.int 2) (.cons (.neg (.int 1)) .nil))) .nil)))))) .nil)))))))
theorem law_tail {G : Gl} {P : Nat → Option Def} (g : GX G) (h14 : P 14 = some Bd.f14) (h186 : P 186 = some Bd.f186) (h187 : P 187 = some Bd.f187) (h189 : P 189 = some Bd.f189) (n : Nat) {ns r ws : List Int} {A : Int} (hA : -1000000000 < A ∧ A < 1000000000) (hw : Wts ws) (w1 : 0 < ws.length) (w8 : ws.length ≤ 8) (hp : ∃ w ∈ ws, 0 < w) :
    Ws (exS G (callN G P (n + 2)) lwT none [some (.rol ns), some (.loc 0), some (.loc 1), some (.int A), none, none, none, none] [.lst (r.map D.int), .lst (ws.map D.int)]) (fun _ _ => False) (fun d _ => d = .bl true) (fun _ _ _ _ => False) := by
  have hR : ([Ob.lst (r.map D.int), .lst (ws.map D.int)] : Store)[1]? = some (.lst (ws.map D.int)) := rfl
  have li : biE .list [Ob.lst (r.map D.int), .lst (ws.map D.int)] [.loc 1] = .ok (.loc 2) ([Ob.lst (r.map D.int), .lst (ws.map D.int), .lst (ws.map D.int)]) := rfl
  unfold lwT
  rw [ws_cons]
  walk_at "st"
  rw [ws_cons]
  walk_at "st"
  refine Wp.mono (share_ok h186 (n + 1) (amount := A) (wl := 2) (M := [Ob.lst (r.map D.int), .lst (ws.map D.int), .lst (ws.map D.int)]) hA rfl hw w1 w8 hp) ?_ (fun _ _ _ h => h.elim)
  rintro d M1 ⟨rfl, rfl⟩
  simp only [List.cons_append, List.nil_append, List.length_cons, List.length_nil, Nat.zero_add, Nat.reduceAdd]
  have hW := sum_pos hw hp
  have q1 : ([Ob.lst (r.map D.int), .lst (ws.map D.int), .lst (ws.map D.int), .lst ((shr A ws).map D.int)] : Store)[1]? = some (.lst (ws.map D.int)) := rfl
  have q2 : ([Ob.lst (r.map D.int), .lst (ws.map D.int), .lst (ws.map D.int), .lst ((shr A ws).map D.int)] : Store)[2]? = some (.lst (ws.map D.int)) := rfl
  have q3 : ([Ob.lst (r.map D.int), .lst (ws.map D.int), .lst (ws.map D.int), .lst ((shr A ws).map D.int)] : Store)[3]? = some (.lst ((shr A ws).map D.int)) := rfl
  generalize hMM : ([Ob.lst (r.map D.int), .lst (ws.map D.int), .lst (ws.map D.int), .lst ((shr A ws).map D.int)] : Store) = MM at q1 q2 q3 ⊢
  have is3 : isiE MM (.loc 3) .list = some true := by
    show (lstAt MM 3).map (fun _ => true) = _
    rw [lstAt_eq.mpr q3]
    rfl
  have n1 := len_ints q1
  have n3 := len_ints q3
  rw [shr_len] at n3
  have ne := ne_ints q2 q1
  have s1 := sum_ints q1
  have s3 := sum_ints q3
  rw [shr_sum hW w1] at s3
  rw [ws_cons]
  walk_at "st"
  rw [ws_cons]
  walk_at "st"
  rw [ws_cons]
  have nn : -4611686018427387904 ≤ (ws.length : Int) ∧ (ws.length : Int) < 4611686018427387904 := by omega
  have hWb : -18446744073709551616 < ws.sum ∧ ws.sum < 18446744073709551616 := by have := sum_le hw; omega
  have hAb : -18446744073709551616 < A ∧ A < 18446744073709551616 := by omega
  walk_at "st"
  refine Ws.mono (ws_for (N := fun e M1 => ∃ x7, M1 = MM ∧ e = [some (.rol ns), some (.loc 0), some (.loc 1), some (.int A), some (.loc 2), some (.loc 3), some (.int ws.sum), x7]) (R := fun _ _ => False) (XS := fun _ _ _ _ => False)
    (fun i e M1 => ∃ x7, M1 = MM ∧ e = [some (.rol ns), some (.loc 0), some (.loc 1), some (.int A), some (.loc 2), some (.loc 3), some (.int ws.sum), x7]) ⟨none, rfl, rfl⟩ ?_ ?_) ?_ (fun _ _ h => h.elim) (fun _ _ _ _ h => h.elim)
  · rintro i x e M1 hx ⟨x7, rfl, rfl⟩
    obtain ⟨hi, rfl⟩ := range_get hx
    have hi : i < ws.length := by omega
    refine ⟨stands_its _ _, _, rfl, ?_⟩
    obtain ⟨w, hwk, d1⟩ := idx_ints (i := (i : Int)) q1 (by omega) (by omega)
    obtain ⟨v, hv, d3⟩ := idx_ints (i := (i : Int)) q3 (by omega) (by rw [shr_len]; omega)
    have hwk : ws[i]? = some w := hwk
    have hv : (shr A ws)[i]? = some v := hv
    obtain ⟨v', hv', bd, z0⟩ := shr_get (a := A) hW w1 hwk
    have ev : v' = v := by rw [hv] at hv'; exact (Option.some.inj hv').symm
    subst ev
    have is14 := isint_ok (G := G) h14 (n + 1) v' M1
    have big : ¬ ws.sum ≤ (if v' * ws.sum - A * w < 0 then -(v' * ws.sum - A * w) else v' * ws.sum - A * w) := by split <;> omega
    clear hv hv' hwk
    rw [ws_cons]
    walk_at "st"
    clear is14 big
    rw [ws_cons]
    by_cases hw0 : w = 0
    · have hv0 := z0 hw0
      subst hw0
      subst hv0
      walk_at "st"
      exact ⟨_, rfl⟩
    · walk_at "st"
      exact ⟨_, rfl⟩
  · rintro e M1 ⟨x7, rfl, rfl⟩
    exact ⟨stands_its _ _, x7, rfl, rfl⟩
  · rintro e M1 ⟨x7, rfl, rfl⟩
    have q4 : ∀ l : Store, (M1 ++ (Ob.lst ((shr A ws).map D.int) :: l))[M1.length]? = some (.lst ((shr A ws).map D.int)) := fun l => get_new0 M1 _
    have q5 := fun l : Store => get_old (l := l) q3
    have ne2 := fun l : Store => ne_ints (q5 (Ob.lst ((shr A ws).map D.int) :: l)) (q4 l)
    have b0 : BadW [] := .inl rfl
    have b1 : BadW [0, 0] := by unfold BadW; decide
    have b2 : BadW [2, -1] := by unfold BadW; decide
    rw [ws_cons]
    walk_at "st"
    refine Wp.mono (parts_ok h189 (n + 1) (amount := A) (wl := 1) (M := M1) hA q1 hw w1 w8 hp) ?_ (fun _ _ _ h => h.elim)
    rintro d M2 ⟨rfl, rfl⟩
    walk_at "st"
    generalize hN : M1 ++ [Ob.lst ((shr A ws).map D.int)] = N
    rw [ws_cons]
    have l0 := fun N : Store => lstG_ok (M := N) (xs := []) (Nat.zero_le _)
    have l1 := fun N : Store => lstG_ok (M := N) (xs := [D.int 0, D.int 0]) (by decide)
    have l2 := fun N : Store => lstG_ok (M := N) (xs := [D.int 2, D.int (-1)]) (by decide)
    walk_at "st"
    refine Wp.mono (refused_ok g h186 h187 n (amount := A) (wl := N.length) (ws := []) (get_new0 N _) b0) ?_ (fun _ _ _ h => h.elim)
    rintro d M2 ⟨rfl, rfl⟩
    walk_at "st"
    refine Wp.mono (refused_ok g h186 h187 n (amount := A) (ws := [0, 0]) (get_new0 _ _) b1) ?_ (fun _ _ _ h => h.elim)
    rintro d M2 ⟨rfl, rfl⟩
    walk_at "st"
    refine Wp.mono (refused_ok g h186 h187 n (amount := A) (ws := [2, -1]) (get_new0 _ _) b2) ?_ (fun _ _ _ h => h.elim)
    rintro d M2 ⟨rfl, rfl⟩
    rfl
theorem law20 {G : Gl} {P : Nat → Option Def} (g : GX G) (h14 : P 14 = some Bd.f14) (h15 : P 15 = some Bd.f15) (h186 : P 186 = some Bd.f186) (h187 : P 187 = some Bd.f187) (h188 : P 188 = some Bd.f188) (h189 : P 189 = some Bd.f189) (h190 : P 190 = some Bd.f190) (n : Nat) (ns : List Int) :
    Wp (callN G P (n + 3) 190 [.rol ns] []) (fun d _ => d = .bl true) NoX := by
  refine wp_call h190 rfl ?_
  unfold Bd.f190
  rw [ws_cons]
  walk_at "st"
  refine Wp.mono (row_ok h15 (n + 1) ns 0 30 (by omega) (by omega) []) ?_ (fun _ _ _ h => h.elim)
  rintro d M1 ⟨rfl, r, hr, rfl⟩
  have hM : ([Ob.lst (r.map D.int)] : Store)[0]? = some (.lst (r.map D.int)) := rfl
  rw [ws_cons]
  simp only [List.nil_append, List.length_nil]
  walk_at "st"
  refine Wp.mono (wts_ok h188 (n + 1) (a := 0) (r := r) (M := [Ob.lst (r.map D.int)]) rfl hr) ?_ (fun _ _ _ h => h.elim)
  rintro d M1 ⟨rfl, ws, hw, w1, w8, hp, rfl⟩
  simp only [List.cons_append, List.nil_append, List.length_cons, List.length_nil, Nat.zero_add]
  have hR : ([Ob.lst (r.map D.int), .lst (ws.map D.int)] : Store)[0]? = some (.lst (r.map D.int)) := rfl
  have hS : ([Ob.lst (r.map D.int), .lst (ws.map D.int)] : Store)[1]? = some (.lst (ws.map D.int)) := rfl
  obtain ⟨v26, e26, a26, b26⟩ := row_at (i := 26) hR hr (by omega) (by omega)
  obtain ⟨v27, e27, a27, b27⟩ := row_at (i := 27) hR hr (by omega) (by omega)
  obtain ⟨v28, e28, a28, b28⟩ := row_at (i := 28) hR hr (by omega) (by omega)
  obtain ⟨v29, e29, a29, b29⟩ := row_at (i := 29) hR hr (by omega) (by omega)
  rw [ws_cons]
  walk_at "st"
  rw [if_pos (.inl (by omega))]
  have hb : -1000000000 < (v26 * 1000000 + v27 * 1000 + v28) * (1 - 2 * (v29 % 2)) ∧ (v26 * 1000000 + v27 * 1000 + v28) * (1 - 2 * (v29 % 2)) < 1000000000 := by
    rcases (by omega : v29 % 2 = 0 ∨ v29 % 2 = 1) with h | h <;> rw [h] <;> omega
  generalize hA : (v26 * 1000000 + v27 * 1000 + v28) * (1 - 2 * (v29 % 2)) = A at hb ⊢
  rw [ws_cons]
  walk_at "st"
  have tail : ∀ A : Int, -1000000000 < A ∧ A < 1000000000 → Ws (exS G (callN G P (n + 2)) lwT none [some (.rol ns), some (.loc 0), some (.loc 1), some (.int A), none, none, none, none] [.lst (r.map D.int), .lst (ws.map D.int)])
      (fun x M1 => Wp (fin [] D.non M1) (fun d x => d = D.bl true) NoX) (fun v M1 => Wp (fin [] v M1) (fun d x => d = D.bl true) NoX) (fun c fs x M1 => oldOk [] M1 = true ∧ (fs.all fun kv => D.und 0 kv.snd) = true ∧ NoX c fs (List.take (List.length ([] : Store)) M1)) := fun A hA =>
    (law_tail g h14 h186 h187 h189 n hA hw w1 w8 hp).mono (fun _ _ h => h.elim) (fun d M1 h => by
      subst h
      have := fin_flat (M := []) (l := M1) (d := .bl true) rfl
      rw [List.nil_append] at this
      rw [this]
      rfl) fun _ _ _ _ h => h.elim
  by_cases h3 : v28 % 3 = 0
  · rw [if_pos h3, ws_cons]
    walk_at "st"
    exact tail _ (by omega)
  · rw [if_neg h3]
    exact tail A hb
end Dv
end

set_option Elab.async false
set_option linter.all false
set_option maxRecDepth 100000
set_option maxHeartbeats 0
/-! the tables of duewrits_k20_whole_shares, printed by gen.py -/
namespace LW
open PySem PySem.Spec PyProof.Rows L2 Dv Bd
def top (i : Nat) : Stmt := PySem.Challenge.pw_duewrits_k20_whole_shares.main.body.getD i (.Pass ⟨0, 0, 0, 0⟩)
def mkD (c : Str) (m : Option Str) (n q : Str) (s : Stmt) : He.DefD := ⟨(c, m), n, q, defArgs s, defBody s, defScope s, [], []⟩
def s0 : Stmt := inClass (top 2) 0
def d0 : Dm := (mkD "BadText" (some "__init__") "__init__" "BadText.__init__" s0, f0, ["self", "at"], ["self", "at"])
def s186 : Stmt := top 6
def d186 : Dm := (mkD "share" none "share" "share" s186, f186, ["amount", "weights", "whole", "parts", "rests", "left", "order", "k", "at", "weight"], ["amount", "weights"])
def s14 : Stmt := top 8
def d14 : Dm := (mkD "_law_is_integer" none "_law_is_integer" "_law_is_integer" s14, f14, ["_law_x"], ["_law_x"])
def s15 : Stmt := top 9
def d15 : Dm := (mkD "_law_row" none "_law_row" "_law_row" s15, f15, ["_law_script", "_law_place", "_law_many", "_law_cell", "_law_rest", "_law_row_here", "_law_k", "_law_mixed"], ["_law_script", "_law_place", "_law_many"])
def s187 : Stmt := top 10
def d187 : Dm := (mkD "_law_refused" none "_law_refused" "_law_refused" s187, f187, ["_law_amount", "_law_weights_here", "e"], ["_law_amount", "_law_weights_here"])
def s188 : Stmt := top 11
def d188 : Dm := (mkD "_law_weights" none "_law_weights" "_law_weights" s188, f188, ["_law_row_here", "_law_weights_here", "_law_k", "_law_weight"], ["_law_row_here"])
def s189 : Stmt := top 12
def d189 : Dm := (mkD "_law_parts" none "_law_parts" "_law_parts" s189, f189, ["_law_amount", "_law_weights_here", "_law_whole", "_law_parts_here", "_law_rests", "_law_weight", "_law_turn", "_law_at"], ["_law_amount", "_law_weights_here"])
def s190 : Stmt := top 13
def d190 : Dm := (mkD "law" none "law" "law" s190, f190, ["_law_script", "_law_row_here", "_law_weights_here", "_law_amount", "_law_passed", "_law_found", "_law_whole", "_law_k"], ["_law_script"])
def ds0 : List (Nat × Dm) := [(0, d0), (186, d186), (14, d14), (15, d15), (187, d187), (188, d188), (189, d189), (190, d190)]
def c0 : CI := { nm := "WritError", xc := true, ve := true, sup := ["WritError"] }
def c1 : CI := { nm := "BadText", xc := true, ve := true, sup := ["BadText", "WritError"], fs := ["at"] }
def c2 : CI := { nm := "NotAllowed", xc := true, ve := true, sup := ["NotAllowed", "WritError"], raw := true }
def c3 : CI := { nm := "UnknownName", xc := true, ve := true, sup := ["UnknownName", "WritError"] }
def tab : Tabs where
  cs := [(0, c0), (1, c1), (2, c2), (3, c3)]
  ds := ds0
  gs := []
  mn := []
theorem o0 : OkDef tab d0 := ⟨by kernel_rfl, rfl, rfl, rfl, rfl, by kernel_rfl, fun _ _ _ F s us hl => F.bindsA (fun _ _ _ _ _ _ us hl => match us, hl with | [_, _], _ => rfl) s us hl⟩
theorem o186 : OkDef tab d186 := ⟨by kernel_rfl, rfl, rfl, rfl, rfl, by kernel_rfl, fun _ _ _ F s us hl => F.bindsA (fun _ _ _ _ _ _ us hl => match us, hl with | [_, _], _ => rfl) s us hl⟩
theorem o14 : OkDef tab d14 := ⟨by kernel_rfl, rfl, rfl, rfl, rfl, by kernel_rfl, fun _ _ _ F s us hl => F.bindsA (fun _ _ _ _ _ _ us hl => match us, hl with | [_], _ => rfl) s us hl⟩
theorem o15 : OkDef tab d15 := ⟨by kernel_rfl, rfl, rfl, rfl, rfl, by kernel_rfl, fun _ _ _ F s us hl => F.bindsA (fun _ _ _ _ _ _ us hl => match us, hl with | [_, _, _], _ => rfl) s us hl⟩
theorem o187 : OkDef tab d187 := ⟨by kernel_rfl, rfl, rfl, rfl, rfl, by kernel_rfl, fun _ _ _ F s us hl => F.bindsA (fun _ _ _ _ _ _ us hl => match us, hl with | [_, _], _ => rfl) s us hl⟩
theorem o188 : OkDef tab d188 := ⟨by kernel_rfl, rfl, rfl, rfl, rfl, by kernel_rfl, fun _ _ _ F s us hl => F.bindsA (fun _ _ _ _ _ _ us hl => match us, hl with | [_], _ => rfl) s us hl⟩
theorem o189 : OkDef tab d189 := ⟨by kernel_rfl, rfl, rfl, rfl, rfl, by kernel_rfl, fun _ _ _ F s us hl => F.bindsA (fun _ _ _ _ _ _ us hl => match us, hl with | [_, _], _ => rfl) s us hl⟩
theorem o190 : OkDef tab d190 := ⟨by kernel_rfl, rfl, rfl, rfl, rfl, by kernel_rfl, fun _ _ _ F s us hl => F.bindsA (fun _ _ _ _ _ _ us hl => match us, hl with | [_], _ => rfl) s us hl⟩
theorem all : OkAll tab tab.ds := .cons o0 (.cons o186 (.cons o14 (.cons o15 (.cons o187 (.cons o188 (.cons o189 (.cons o190 (.nil))))))))
def nm0 : List Str := ["WritError", "BadText", "NotAllowed", "UnknownName", "share", "_law_is_integer", "_law_row", "_law_refused", "_law_weights", "_law_parts"]
def names : List Str := nm0
abbrev R : PySem.W.OpenRow := PySem.W.OpenLaw.row PySem.Challenge.rw_duewrits_k20_whole_shares
def ob (s : PySem.W.SharedT) : Tabs.Al := tab.obsG (HandSHeadRun.getT s)
theorem ob_eq (s : PySem.W.SharedT) : ob s = tab.hook.obs s.abs := tab.obsG_eq (HandSHeadRun.getT_eq s)
theorem run (w : World) : HandSHeadRun.RunEq R (PySem.W.view R.prog [13]) tab.hook ob 2000 names w := by
  intro os
  kernel_rfl
theorem mir (ns : List Int) (h : ns.length ≤ 63) : ∃ M, callN tab.G tab.P 6 190 [.rol ns] [] = .ok (.bl true) M :=
  Dv.mir_of (Dv.law20 (G := tab.G) (P := tab.P) ⟨rfl, rfl, rfl, rfl, rfl, rfl, rfl, rfl, rfl⟩ rfl rfl rfl rfl rfl rfl rfl 3 ns)

theorem xo : tab.xiOk = true := by rfl
end LW
open PySem PySem.W PySem.Calls PyProof.Rows
theorem PySem.Challenge.cw_duewrits_k20_whole_shares_holds : PySem.Challenge.rw_duewrits_k20_whole_shares.Holds := by
  w_on; o_law
  refine HandSHeadRun.head_any (r := OpenLaw.row PySem.Challenge.rw_duewrits_k20_whole_shares) (q := view (OpenLaw.row PySem.Challenge.rw_duewrits_k20_whole_shares).prog [13]) (H := LW.tab.hook) (ob := LW.ob) (M := 2000) (loose := LW.names) (d := HandSHeadRun.topDef (OpenLaw.row PySem.Challenge.rw_duewrits_k20_whole_shares).prog 13) (kwd := []) LW.ob_eq
    (by kernel_rfl) (fun s => by kernel_rfl) LW.run (by kernel_rfl) (by kernel_rfl) (by kernel_rfl) (by rfl) (by first | assumption | decide +kernel) (by decide +kernel) ⟨rfl, rfl, rfl, rfl, rfl, by decide +kernel⟩ ?hw ?hc
  case hw => w_witness2
  case hc =>
    refine L2.walk_ofE (l := PySem.Challenge.rw_duewrits_k20_whole_shares) (n := 63) (k := 2 * 6 + 1) (x := "_law_script") (CX := Dv.CXn) rfl (by decide) (by kernel_rfl) ⟨rfl, by decide, by decide⟩ ?F (fun _ _ _ _ z => z)
    intro w mg fa h Y G hmg0
    obtain ⟨K, KX, c⟩ := Y
    have hmg : mg ("law" : PySem.Str) = some (.ref fa) := by
      have e : (HandSHeadRun.topDef (OpenLaw.row PySem.Challenge.rw_duewrits_k20_whole_shares).prog 13).name = ("law" : PySem.Str) := by kernel_rfl
      rw [← e]
      exact hmg0
    obtain ⟨fd, hb, hF⟩ := Dv.Tabs.law (P₀ := (PySem.Challenge.rw_duewrits_k20_whole_shares).prog) (w := w) (f := 190) (n := 6) (x := LW.d190) KX G hmg c LW.all rfl rfl rfl LW.xo
    exact ⟨K, fd, fun vs H Q _ => Dv.spC (LW.tab.CA K) K (Dv.callN LW.tab.G LW.tab.P 6) 190 vs H Q fun _ _ _ => False, KX, hb, fun H a ns hl hO hS => Dv.script_ok (LW.mir ns hl).choose_spec hO hS, hF⟩
