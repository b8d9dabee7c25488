import PyProof.Rows.All
import Wide.All
import OpenK.AllK
import Wide.FinOn
import HandS.ForSpec
import HandS.Comp
import HandS.Dict
import HandS.TupAny
import HandS.RaiseMore
import HandS.More
import HandS.Text
import HandS.Iter
import HandS.IsInst
import HandS.WordsDict
import HandS.SortInts
import HandS.Set
import HandS.SetFor
import HandS.Strs
import HandS.WideBits
import HandS.AnyAll
import KE.KSortTupG
import HandS.Zip
import KE.KDictZip
import PyProof.TupleOfGen
import HandS.ExcValue
import HandS.Flow
import HandS.CallSlots
import HandS.CallRecv
import HandS.HeadWalk
import HandS.Defaults
import HandS.Codes
import HandS.Words
import HandS.Head0
import HandS.Head1
import HandS.Head2
import HandS.HeadEnd
import HandS.HeadHook1
import HandS.HeadHook2
import HandS.HeadHook3
import KE.KStateDown
import PySem.Challenge.RW_tapline_k60_the_machine_pick_by_pick
set_option Elab.async false
set_option linter.all false
set_option maxRecDepth 100000
set_option maxHeartbeats 0
/-! ZA: a small language of its own (values, heap, expressions, statements) and what it means, as plain functions. -/
namespace Z
open PySem

abbrev Nm := List Nat

/-- values: tuples are plain data; rol: a list that never changes (the script, a list of the module's top); ref: a place of the small heap -/
inductive D where
  | non | bl (b : Bool) | int (i : Int) | str (s : Nm) | tup (l : List D) | rol (l : List D) | ref (n : Nat)
  deriving Inhabited

/-- what stands at a place -/
inductive O where
  | lst (l : List D) | dct (l : List (D × D)) | ins (c : Nm) (fs : List (Nm × D)) | set (l : List Int)
  deriving Inhabited

abbrev Hh := List O
abbrev Sg := List (Option D)

inductive Res (α : Type) where
  | ok (a : α) (h : Hh)
  | exc (c : Nm) (fs : List (Nm × D)) (h : Hh)
  | bad

def Res.bind {α β : Type} (r : Res α) (f : α → Hh → Res β) : Res β :=
  match r with
  | .ok a h => f a h
  | .exc c fs h => .exc c fs h
  | .bad => .bad
@[simp] theorem Res.bind_ok {α β : Type} (a : α) (h : Hh) (f : α → Hh → Res β) : (Res.ok a h).bind f = f a h := rfl
@[simp] theorem Res.bind_bad {α β : Type} (f : α → Hh → Res β) : (Res.bad : Res α).bind f = .bad := rfl
@[simp] theorem Res.bind_exc {α β : Type} (c : Nm) (fs : List (Nm × D)) (h : Hh) (f : α → Hh → Res β) : (Res.exc c fs h : Res α).bind f = .exc c fs h := rfl

/-- the largest length -/
def SZ : Nat := 16777216

def toS (s : Nm) : Str := ⟨s.toArray⟩

/-! ### equality of data -/
def mapO {α β : Type} (f : α → Option β) : List α → Option (List β)
  | [] => some []
  | x :: r => match f x with
    | some y => match mapO f r with
      | some ys => some (y :: ys)
      | none => none
    | none => none
/-- a value as data, the heap's lists read, to depth n -/
def pyH : Nat → Hh → D → Option PyData
  | _, _, .non => some .none
  | _, _, .bl b => some (.bool b)
  | _, _, .int i => some (.int i)
  | _, _, .str s => some (.str (toS s))
  | 0, _, .tup _ => none
  | 0, _, .rol _ => none
  | 0, _, .ref _ => none
  | n + 1, h, .tup l => match mapO (pyH n h) l with
    | some ps => some (.tuple ps)
    | none => none
  | n + 1, h, .rol l => match mapO (pyH n h) l with
    | some ps => some (.list ps)
    | none => none
  | n + 1, h, .ref a => match h[a]? with
    | some (.lst l) => match mapO (pyH n h) l with
      | some ps => some (.list ps)
      | none => none
    | _ => none
def eqD (h : Hh) (x y : D) : Option Bool :=
  match pyH 64 h x, pyH 64 h y with
  | some a, some b => some (PyData.eqv a b)
  | _, _ => none
def lstD : D → Bool
  | .int _ => true | .str _ => true | .non => true | .bl _ => true
  | _ => false
/-- keys of dicts: ints and texts -/
def keyD : D → Bool
  | .int _ => true | .str _ => true
  | _ => false
/-- equality of two keys -/
def keq : D → D → Bool
  | .int i, .int j => decide (i = j)
  | .str a, .str b => decide (a = b)
  | _, _ => false
def dget (kvs : List (D × D)) (k : D) : Option D :=
  match kvs with
  | [] => none
  | p :: r => if keq p.1 k then some p.2 else dget r k
def dput (kvs : List (D × D)) (k v : D) : List (D × D) :=
  if (kvs.any fun p => keq p.1 k) = true then kvs.map (fun p => if keq p.1 k = true then (p.1, v) else p) else kvs ++ [(k, v)]
def ddel (kvs : List (D × D)) (k : D) : List (D × D) := kvs.filter fun p => !keq p.1 k

/-! ### truth, operators -/
def truth (h : Hh) : D → Option Bool
  | .non => some false
  | .bl b => some b
  | .int i => some (i != 0)
  | .str s => some (!s.isEmpty)
  | .tup l => some (!l.isEmpty)
  | .rol l => some (!l.isEmpty)
  | .ref n => match h[n]? with
    | some (.lst l) => some (!l.isEmpty)
    | some (.dct l) => some (!l.isEmpty)
    | _ => none

def alloc (h : Hh) (o : O) : Res D := .ok (.ref h.length) (h ++ [o])

/-- the items of a list or tuple -/
def seqOf (h : Hh) : D → Option (List D)
  | .tup l => some l
  | .rol l => some l
  | .ref n => match h[n]? with
    | some (.lst l) => some l
    | _ => none
  | _ => none
def lstOf (h : Hh) : D → Option (List D)
  | .rol l => some l
  | .ref n => match h[n]? with
    | some (.lst l) => some l
    | _ => none
  | _ => none
def tupOf : D → Option (List D)
  | .tup l => some l
  | _ => none

/-- l, j times -/
def repL {α : Type} (l : List α) (j : Int) : List α := (List.replicate j.toNat l).flatten
def small (i : Int) : Bool := decide (-(2 ^ 64) < i) && decide (i < 2 ^ 64)

def binop (o : Operator) (x y : D) (h : Hh) : Res D :=
  match o, x, y with
  | .Add, .int i, .int j => .ok (.int (i + j)) h
  | .Add, .str a, .str b => if a.length + b.length ≤ SZ then .ok (.str (a ++ b)) h else .bad
  | .Add, .tup a, .tup b => if a.length + b.length ≤ SZ then .ok (.tup (a ++ b)) h else .bad
  | .Add, .ref a, .ref b => match h[a]?, h[b]? with
    | some (.lst xs), some (.lst ys) => if xs.length + ys.length ≤ SZ then alloc h (.lst (xs ++ ys)) else .bad
    | _, _ => .bad
  | .Sub, .int i, .int j => .ok (.int (i - j)) h
  | .Mult, .int i, .int j => if small i || small j then .ok (.int (i * j)) h else .bad
  | .Mult, .str a, .int j => if a.length ≤ 1000 ∧ 1 ≤ j ∧ j ≤ 1000 then .ok (.str (repL a j)) h else .bad
  | .Mult, .ref a, .int j => match h[a]? with
    | some (.lst xs) => if xs.length * j.toNat ≤ SZ ∧ -(2 ^ 63) ≤ j ∧ j < 2 ^ 63 then alloc h (.lst (repL xs j)) else .bad
    | _ => .bad
  | .FloorDiv, .int i, .int j => if j ≠ 0 ∧ j.natAbs < 1073741824 then .ok (.int (i.fdiv j)) h else .bad
  | .Mod, .int i, .int j => if j ≠ 0 then .ok (.int (i.fmod j)) h else .bad
  | .Pow, .int i, .int j => if 0 ≤ j ∧ j ≤ 1000000 ∧ i.natAbs < 2 ^ 64 then .ok (.int (i ^ j.toNat)) h else .bad
  | _, _, _ => .bad

/-- == of flat values -/
def eqF : D → D → Bool
  | .non, .non => true
  | .bl a, .bl b => a == b
  | .bl a, .int b => (if a then 1 else 0) == b
  | .int a, .bl b => a == (if b then 1 else 0)
  | .int a, .int b => a == b
  | .str a, .str b => a == b
  | _, _ => false
def inD (x : D) (l : List D) : Bool := l.any fun y => eqF y x
/-- comparisons -/
def ltNm : Nm → Nm → Bool := fun a b => decide (a < b)
def isIn (h : Hh) (x y : D) : Option Bool :=
  match y with
  | .str b => match x with
    | .str [c] => some (decide (c ∈ b))
    | _ => none
  | .ref n => match h[n]? with
    | some (.dct kvs) => if keyD x then some (dget kvs x).isSome else none
    | some (.lst l) => if lstD x && l.all lstD then some (inD x l) else none
    | _ => none
  | .tup l => if lstD x && l.all lstD then some (inD x l) else none
  | .rol l => if lstD x && l.all lstD then some (inD x l) else none
  | _ => none
def isNon : D → Bool
  | .non => true
  | _ => false
def cmpD (o : CmpOp) (x y : D) (h : Hh) : Option Bool :=
  match o with
  | .Eq => eqD h x y
  | .NotEq => (eqD h x y).map (!·)
  | .Lt => match x, y with
    | .int i, .int j => some (decide (i < j))
    | .str a, .str b => some (ltNm a b)
    | _, _ => none
  | .LtE => match x, y with
    | .int i, .int j => some (decide (i ≤ j))
    | .str a, .str b => some (!ltNm b a)
    | _, _ => none
  | .Gt => match x, y with
    | .int i, .int j => some (decide (j < i))
    | .str a, .str b => some (ltNm b a)
    | _, _ => none
  | .GtE => match x, y with
    | .int i, .int j => some (decide (j ≤ i))
    | _, _ => none
  | .Is => match y with
    | .non => some (isNon x)
    | _ => none
  | .IsNot => match y with
    | .non => some (!isNon x)
    | _ => none
  | .In => isIn h x y
  | .NotIn => (isIn h x y).map (!·)
def ofOpt {α : Type} (o : Option α) (h : Hh) : Res α :=
  match o with
  | some a => .ok a h
  | none => .bad
@[simp] theorem ofOpt_some {α : Type} (a : α) (h : Hh) : ofOpt (some a) h = .ok a h := rfl
def cmpop (o : CmpOp) (x y : D) (h : Hh) : Res D := (ofOpt (cmpD o x y h) h).bind fun b h => .ok (.bl b) h

/-- x op= y -/
def augop (o : Operator) (x y : D) (h : Hh) : Res D :=
  match o, x, y with
  | .Add, .int i, .int j => .ok (.int (i + j)) h
  | .Sub, .int i, .int j => .ok (.int (i - j)) h
  | .Add, .str a, .str b => if a.length + b.length ≤ SZ then .ok (.str (a ++ b)) h else .bad
  | _, _, _ => .bad

def getix (x i : D) (h : Hh) : Res D :=
  match x with
  | .str s => match i with
    | .int j => (ofOpt (L2.atI s j) h).bind fun c h => .ok (.str [c]) h
    | _ => .bad
  | .ref n => match h[n]? with
    | some (.lst l) => match i with
      | .int j => ofOpt (L2.atI l j) h
      | _ => .bad
    | some (.dct kvs) => if keyD i then ofOpt (dget kvs i) h else .bad
    | _ => .bad
  | .tup l => match i with
    | .int j => ofOpt (L2.atI l j) h
    | _ => .bad
  | .rol l => match i with
    | .int j => ofOpt (L2.atI l j) h
    | _ => .bad
  | _ => .bad

def cutL {α : Type} (l : List α) (lo hi : Option Int) : List α := (l.drop (HT.sIx l.length 0 lo)).take (HT.sIx l.length l.length hi - HT.sIx l.length 0 lo)
def slice (x : D) (lo hi : Option Int) (h : Hh) : Res D :=
  match x with
  | .str s => .ok (.str (cutL s lo hi)) h
  | .tup l => .ok (.tup (cutL l lo hi)) h
  | .rol l => alloc h (.lst (cutL l lo hi))
  | .ref n => match h[n]? with
    | some (.lst l) => alloc h (.lst (cutL l lo hi))
    | _ => .bad
  | _ => .bad

/-- where x[j] op= .. may stand -/
def augOk (x j : D) (h : Hh) : Bool := match x with
  | .ref n => match h[n]? with
    | some (.lst _) => (match j with | .int i => decide (0 ≤ i) | _ => false)
    | some (.dct _) => true
    | _ => false
  | _ => false
def setix (x i v : D) (h : Hh) : Res Unit :=
  match x with
  | .ref n => match h[n]? with
    | some (.lst l) => match i with
      | .int j => match L2.ixN l.length j with
        | some k => .ok () (h.set n (.lst (l.set k v)))
        | none => .bad
      | _ => .bad
    | some (.dct kvs) => if keyD i && decide (kvs.length < SZ) then .ok () (h.set n (.dct (dput kvs i v))) else .bad
    | _ => .bad
  | _ => .bad
def delix (x i : D) (h : Hh) : Res Unit :=
  match x with
  | .ref n => match h[n]? with
    | some (.dct kvs) => if keyD i && (dget kvs i).isSome then .ok () (h.set n (.dct (ddel kvs i))) else .bad
    | _ => .bad
  | _ => .bad

/-- a function: of a class (or []), by its name -/
abbrev Fid := Nm × Nm
/-- the program's tables: a class's methods, the attributes that its instances may get -/
structure Tb where
  mt : Nm → Nm → Option Fid
  at_ : Nm → Nm → Bool

/-- attributes -/
def fget (fs : List (Nm × D)) (f : Nm) : Option D :=
  match fs with
  | [] => none
  | p :: r => if p.1 = f then some p.2 else fget r f
def fput (fs : List (Nm × D)) (f : Nm) (v : D) : List (Nm × D) :=
  match fs with
  | [] => [(f, v)]
  | p :: r => if p.1 = f then (p.1, v) :: r else p :: fput r f v
def getfl (x : D) (f : Nm) (h : Hh) : Res D :=
  match x with
  | .ref n => match h[n]? with
    | some (.ins _ fs) => ofOpt (fget fs f) h
    | _ => .bad
  | _ => .bad
def setfl (tb : Tb) (x : D) (f : Nm) (v : D) (h : Hh) : Res Unit :=
  match x with
  | .ref n => match h[n]? with
    | some (.ins c fs) => if fs.length < 1000 ∧ ((fget fs f).isSome || tb.at_ c f) = true then .ok () (h.set n (.ins c (fput fs f v))) else .bad
    | _ => .bad
  | _ => .bad

/-! ### the language -/
/-- built-in functions -/
inductive Bf where
  | len | abs | int | str | tuple | list | sum | max2 | min2 | ord | sorted | isa (T : String) | dict | any | all | set | max1 | min1
  deriving DecidableEq
/-- methods of built-in types -/
inductive Bm where
  | append | lpop | extend | count | index | dget | dpop | setdef | bitlen | join | split | find | rfind | tocc
  deriving DecidableEq

mutual
inductive E where
  | var (i : Nat)
  | cst (d : D)
  | tup (es : List E)
  | lst (es : List E)
  | dct (es : List E)
  | bin (o : Operator) (a b : E)
  | neg (a : E)
  | nt (a : E)
  | and (a b : E)
  | or (a b : E)
  | cmp (o : CmpOp) (a b : E)
  | chain (o p : CmpOp) (a b c : E)
  | idx (a i : E)
  | sli (a : E) (lo hi : Option E)
  | call (f : Fid) (es : List E)
  | make (c : Nm) (f : Fid) (es : List E)
  | blt (f : Bf) (es : List E)
  | mth (o : E) (m : Nm) (es : List E)
  | fld (o : E) (f : Nm)
  | comp (vs : List Nat) (t : T) (i : I) (c : Option E) (e : E)
  | tab (kvs : List (Nm × D)) (e : E)
  | sset (e : E)
  | tzip (es : List E)
inductive T where
  | nm (i : Nat)
  | fld (o : E) (f : Nm)
  | ix (a i : E)
  | tup (ts : List T)
inductive I where
  | seq (e : E)
  | rng1 (a : E)
  | rng2 (a b : E)
end
inductive S where
  | asg (t : T) (e : E)
  | aug (i : Nat) (o : Operator) (e : E)
  | augf (a : E) (f : Nm) (o : Operator) (e : E)
  | augi (a i : E) (o : Operator) (e : E)
  | ex (e : E)
  | ret (e : E)
  | retn
  | ite (c : E) (a b : List S)
  | whl (c : E) (b : List S)
  | each (t : T) (i : I) (b : List S)
  | brk | cont | pass
  | del (a i : E)
  | stuck

/-- how a statement ends -/
inductive Fl where
  | nx | brk | ct | ret (v : D) | exc (c : Nm) (fs : List (Nm × D))
/-- in a statement: what is raised ends it, with the names as they stand -/
def Res.st {α : Type} (r : Res α) (sg : Sg) (f : α → Hh → Res (Fl × Sg)) : Res (Fl × Sg) :=
  match r with
  | .ok a h => f a h
  | .exc c fs h => .ok (.exc c fs, sg) h
  | .bad => .bad
@[simp] theorem Res.st_ok {α : Type} (a : α) (h : Hh) (sg : Sg) (f : α → Hh → Res (Fl × Sg)) : (Res.ok a h).st sg f = f a h := rfl
@[simp] theorem Res.st_bad {α : Type} (sg : Sg) (f : α → Hh → Res (Fl × Sg)) : (Res.bad : Res α).st sg f = .bad := rfl

/-- what a walk goes over -/
inductive Sq where
  | pur (l : List D)
  | lst (n : Nat)

def rngL (a b : Int) : List D := (List.range (b - a).toNat).map fun (k : Nat) => D.int (a + (k : Int))
@[irreducible] def inRng (i : Int) : Bool := decide (-(2 ^ 62) ≤ i) && decide (i < 2 ^ 62)

/-- many rounds of a while -/
def FUEL : Nat := 1000000000000

section
variable (cl : Fid → List D → Hh → Res D) (tb : Tb)

/-- sum of ints -/
def sumD : List D → Option Int
  | [] => some 0
  | .int i :: r => (sumD r).map (i + ·)
  | _ => none
def intsD : List D → Option (List Int)
  | [] => some []
  | .int i :: r => (intsD r).map (i :: ·)
  | _ => none
/-- tuples of ints, none empty -/
def itupD : D → Option (List Int)
  | .tup (x :: l) => intsD (x :: l)
  | _ => none
def itupsD : List D → Option (List (List Int))
  | [] => some []
  | d :: r => match itupD d, itupsD r with
    | some k, some ks => some (k :: ks)
    | _, _ => none
/-- sorting by insertion -/
def insB {α : Type} (le : α → α → Bool) (x : α) : List α → List α
  | [] => [x]
  | y :: r => if le x y then x :: y :: r else y :: insB le x r
def sortB {α : Type} (le : α → α → Bool) : List α → List α
  | [] => []
  | x :: r => insB le x (sortB le r)
def leI (a b : Int) : Bool := decide (a ≤ b)
def ltL : List Int → List Int → Bool
  | [], [] => false
  | [], _ :: _ => true
  | _ :: _, [] => false
  | x :: r, y :: t => decide (x < y) || (decide (x = y) && ltL r t)
def leL (a b : List Int) : Bool := !ltL b a
/-- into an ascending row, each once -/
def insU (x : Int) : List Int → List Int
  | [] => [x]
  | y :: r => if x < y then x :: y :: r else if x = y then y :: r else y :: insU x r
def sortU : List Int → List Int
  | [] => []
  | x :: r => insU x (sortU r)
def ikeys : List (D × D) → Option (List Int)
  | [] => some []
  | (.int i, _) :: r => (ikeys r).map (i :: ·)
  | _ => none
def maxL : Int → List Int → Int
  | m, [] => m
  | m, x :: r => maxL (if m < x then x else m) r
def minL : Int → List Int → Int
  | m, [] => m
  | m, x :: r => minL (if x < m then x else m) r
def boolsD : List D → Option (List Bool)
  | [] => some []
  | .bl b :: r => (boolsD r).map (b :: ·)
  | _ => none
def pairsO : List D → Option (List (D × D))
  | [] => some []
  | .tup [a, b] :: r => if keyD a then (pairsO r).map ((a, b) :: ·) else none
  | _ => none
def mergeD (acc : List (D × D)) : List (D × D) → List (D × D)
  | [] => acc
  | p :: r => mergeD (dput acc p.1 p.2) r
/-- the figures of a number -/
def dg (n : Nat) : Nm := (Nat.toDigits 10 n).map Char.toNat
def strInt (i : Int) : Nm := if 0 ≤ i then dg i.toNat else 45 :: dg (-i).toNat

def tyName (h : Hh) : D → Option String
  | .non => some "NoneType"
  | .bl _ => some "bool"
  | .int _ => some "int"
  | .str _ => some "str"
  | .tup _ => some "tuple"
  | .rol _ => some "list"
  | .ref n => match h[n]? with
    | some (.lst _) => some "list"
    | some (.dct _) => some "dict"
    | _ => none
def isaTs : List String := ["bool", "int", "str", "tuple", "list", "dict"]
def isaT (t T : String) : Bool := decide (t = T) || (decide (t = "bool") && decide (T = "int"))
def bltop (f : Bf) (xs : List D) (h : Hh) : Res D :=
  match f, xs with
  | .len, [.str s] => .ok (.int s.length) h
  | .len, [.ref n] => match h[n]? with
    | some (.lst l) => .ok (.int l.length) h
    | some (.dct l) => .ok (.int l.length) h
    | _ => .bad
  | .len, [.tup l] => .ok (.int l.length) h
  | .len, [.rol l] => .ok (.int l.length) h
  | .abs, [.int i] => .ok (.int (if i < 0 then -i else i)) h
  | .int, [.int i] => .ok (.int i) h
  | .int, [.bl b] => .ok (.int (if b then 1 else 0)) h
  | .str, [.int i] => if i.natAbs.log2 < 1920 then .ok (.str (strInt i)) h else .bad
  | .str, [.str s] => .ok (.str s) h
  | .tuple, [x] => (ofOpt (seqOf h x) h).bind fun l h => .ok (.tup l) h
  | .list, [x] => (ofOpt (seqOf h x) h).bind fun l h => alloc h (.lst l)
  | .sum, [x] => (ofOpt ((lstOf h x).bind sumD) h).bind fun i h => .ok (.int i) h
  | .max2, [.int i, .int j] => .ok (.int (if j > i then j else i)) h
  | .min2, [.int i, .int j] => .ok (.int (if j < i then j else i)) h
  | .ord, [.str [c]] => .ok (.int c) h
  | .sorted, [.ref n] => match h[n]? with
    | some (.lst l) => match intsD l with
      | some ns => alloc h (.lst ((sortB leI ns).map .int))
      | none => match itupsD l with
        | some ks => alloc h (.lst ((sortB leL ks).map fun k => .tup (k.map .int)))
        | none => .bad
    | some (.dct l) => match ikeys l with
      | some ks => if ks.length < 64 then alloc h (.lst ((sortB leI ks).map .int)) else .bad
      | none => .bad
    | _ => .bad
  | .max1, [.ref n] => match h[n]? with
    | some (.lst l) => match intsD l with
      | some (i :: r) => .ok (.int (maxL i r)) h
      | _ => .bad
    | _ => .bad
  | .min1, [.ref n] => match h[n]? with
    | some (.lst l) => match intsD l with
      | some (i :: r) => .ok (.int (minL i r)) h
      | _ => .bad
    | _ => .bad
  | .all, [.ref n] => match h[n]? with
    | some (.lst l) => match boolsD l with
      | some bs => .ok (.bl (bs.all id)) h
      | _ => .bad
    | _ => .bad
  | .any, [.ref n] => match h[n]? with
    | some (.lst l) => match boolsD l with
      | some bs => .ok (.bl (bs.any id)) h
      | _ => .bad
    | _ => .bad
  | .dict, [.ref n] => match h[n]? with
    | some (.dct l) => alloc h (.dct l)
    | _ => .bad
  | .isa T, [x] => (ofOpt (tyName h x) h).bind fun t h => if T ∈ isaTs then .ok (.bl (isaT t T)) h else .bad
  | _, _ => .bad

/-- sorted(set(..)) -/
def ssetop (x : D) (h : Hh) : Res D := match seqOf h x with
  | some l => match intsD l with
    | some ns => if ns.length < 64 then alloc h (.lst ((sortU ns).map .int)) else .bad
    | none => .bad
  | none => .bad
/-- tuple(zip(x, y)) of two lists of one length -/
def zipD (a b : List D) : List D := List.zipWith (fun x y => .tup [x, y]) a b
def tzipop (x y : D) (h : Hh) : Res D := match x, y with
  | .ref n, .ref m => match h[n]?, h[m]? with
    | some (.lst a), some (.lst b) => if a.length = b.length then .ok (.tup (zipD a b)) h else .bad
    | _, _ => .bad
  | _, _ => .bad
def tzipL (xs : List D) (h : Hh) : Res D := match xs with
  | [x, y] => tzipop x y h
  | _ => .bad
/-- a method of a list, a dict, an int -/
def lmOf (m : Nm) : Option Bm :=
  if m = [97, 112, 112, 101, 110, 100] then some .append
  else if m = [112, 111, 112] then some .lpop
  else if m = [101, 120, 116, 101, 110, 100] then some .extend
  else if m = [99, 111, 117, 110, 116] then some .count
  else none
def dmOf (m : Nm) : Option Bm :=
  if m = [103, 101, 116] then some .dget
  else if m = [112, 111, 112] then some .dpop
  else none
def imOf (m : Nm) : Option Bm :=
  if m = [98, 105, 116, 95, 108, 101, 110, 103, 116, 104] then some .bitlen
  else none
def tmOf (m : Nm) : Option Bm :=
  if m = [106, 111, 105, 110] then some .join
  else none
/-- what receives a method call -/
inductive Rk where
  | ins (f : Fid) | bm (k : Bm)
def recv (x : D) (m : Nm) (h : Hh) : Option Rk :=
  match x with
  | .int _ => (imOf m).map .bm
  | .str _ => (tmOf m).map .bm
  | .ref n => match h[n]? with
    | some (.ins c fs) => match tb.mt c m, fget fs m with
      | some f, none => some (.ins f)
      | _, _ => none
    | some (.lst _) => (lmOf m).map .bm
    | some (.dct _) => (dmOf m).map .bm
    | _ => none
  | _ => none
def lmeth (x : D) (m : Bm) (xs : List D) (h : Hh) : Res D :=
  match x with
  | .ref n => match h[n]? with
    | some (.lst l) => match m, xs with
      | .append, [v] => if l.length < SZ then .ok .non (h.set n (.lst (l ++ [v]))) else .bad
      | .lpop, [] => match l.getLast? with
        | some v => .ok v (h.set n (.lst l.dropLast))
        | none => .bad
      | .lpop, [.int i] => match L2.ixN l.length i with
        | some j => match l[j]? with
          | some v => .ok v (h.set n (.lst (l.eraseIdx j)))
          | none => .bad
        | none => .bad
      | .extend, [v] => match seqOf h v with
        | some l2 => if l.length + l2.length < SZ then .ok .non (h.set n (.lst (l ++ l2))) else .bad
        | none => .bad
      | .count, [.int k] => match intsD l with
        | some ns => .ok (.int (ns.count k)) h
        | none => .bad
      | _, _ => .bad
    | _ => .bad
  | _ => .bad
def dmeth (x : D) (m : Bm) (xs : List D) (h : Hh) : Res D :=
  match x with
  | .ref n => match h[n]? with
    | some (.dct kvs) => match m, xs with
      | .dget, [k, d] => if keyD k then .ok ((dget kvs k).getD d) h else .bad
      | .dget, [k] => if keyD k then .ok ((dget kvs k).getD .non) h else .bad
      | .dpop, [k] => if keyD k then (ofOpt (dget kvs k) h).bind fun v h => .ok v (h.set n (.dct (ddel kvs k))) else .bad
      | .dpop, [k, d] => if keyD k then .ok ((dget kvs k).getD d) (h.set n (.dct (ddel kvs k))) else .bad
      | _, _ => .bad
    | _ => .bad
  | _ => .bad
def bitlen (i : Int) : Nat := Builtin.Int.intBits i
def imeth (x : D) (m : Bm) (xs : List D) (h : Hh) : Res D :=
  match x with
  | .int i => match m, xs with
    | .bitlen, [] => .ok (.int (bitlen i)) h
    | _, _ => .bad
  | _ => .bad
/-- the texts of a list, one text between any two -/
def strsD : List D → Option (List Nm)
  | [] => some []
  | .str s :: r => (strsD r).map (s :: ·)
  | _ => none
def joinN (s : Nm) : List Nm → Nm
  | [] => []
  | [x] => x
  | x :: y :: r => x ++ s ++ joinN s (y :: r)
def tmeth (x : D) (m : Bm) (xs : List D) (h : Hh) : Res D :=
  match x with
  | .str s => match m, xs with
    | .join, [v] => match seqOf h v with
      | some l => match strsD l with
        | some ys => if (ys.map (·.length)).sum + ys.length * s.length ≤ SZ then .ok (.str (joinN s ys)) h else .bad
        | none => .bad
      | none => .bad
    | _, _ => .bad
  | _ => .bad
def bmeth (x : D) (m : Bm) (xs : List D) (h : Hh) : Res D :=
  match m with
  | .append => lmeth x m xs h
  | .lpop => lmeth x m xs h
  | .extend => lmeth x m xs h
  | .count => lmeth x m xs h
  | .dget => dmeth x m xs h
  | .dpop => dmeth x m xs h
  | .bitlen => imeth x m xs h
  | .join => tmeth x m xs h
  | _ => .bad
/-- o.m(..) -/
def methop (r : Rk) (x : D) (m : Nm) (xs : List D) (h : Hh) : Res D :=
  match r with
  | .ins f => cl f (x :: xs) h
  | .bm k => bmeth x k xs h
def makeop (c : Nm) (f : Fid) (xs : List D) (h : Hh) : Res D :=
  (cl f (.ref h.length :: xs) (h ++ [.ins c []])).bind fun v h2 => match v with
    | .non => .ok (.ref h.length) h2
    | _ => .bad

/-- a walk's turns -/
def turns (body : D → Sg → Hh → Res (Fl × Sg)) : List D → Sg → Hh → Res (Fl × Sg)
  | [], sg, h => .ok (.nx, sg) h
  | x :: r, sg, h => (body x sg h).bind fun p h1 => match p.1 with
    | .nx => turns body r p.2 h1
    | .ct => turns body r p.2 h1
    | .brk => .ok (.nx, p.2) h1
    | f => .ok (f, p.2) h1
/-- .. over a list that stands at n -/
def turnsL (body : D → Sg → Hh → Res (Fl × Sg)) (n : Nat) : Nat → Nat → Sg → Hh → Res (Fl × Sg)
  | 0, _, _, _ => .bad
  | m + 1, i, sg, h => match h[n]? with
    | some (.lst l) => match l[i]? with
      | none => .ok (.nx, sg) h
      | some x => (body x sg h).bind fun p h1 => match p.1 with
        | .nx => turnsL body n m (i + 1) p.2 h1
        | .ct => turnsL body n m (i + 1) p.2 h1
        | .brk => .ok (.nx, p.2) h1
        | f => .ok (f, p.2) h1
    | _ => .bad
def rounds (c : Sg → Hh → Res Bool) (body : Sg → Hh → Res (Fl × Sg)) : Nat → Sg → Hh → Res (Fl × Sg)
  | 0, _, _ => .bad
  | m + 1, sg, h => (c sg h).st sg fun b h1 => if b then (body sg h1).bind fun p h2 => match p.1 with
      | .nx => rounds c body m p.2 h2
      | .ct => rounds c body m p.2 h2
      | .brk => .ok (.nx, p.2) h2
      | f => .ok (f, p.2) h2
    else .ok (.nx, sg) h1
/-- a comprehension's turns: the list made so far -/
def cturns (turn : D → Hh → Res (Option D)) : List D → List D → Hh → Res (List D)
  | [], acc, h => .ok acc h
  | x :: r, acc, h => (turn x h).bind fun y h1 => match y with
    | none => cturns turn r acc h1
    | some v => if acc.length < SZ then cturns turn r (acc ++ [v]) h1 else .bad
def cturnsL (turn : D → Hh → Res (Option D)) (n : Nat) : Nat → Nat → List D → Hh → Res (List D)
  | 0, _, _, _ => .bad
  | m + 1, i, acc, h => match h[n]? with
    | some (.lst l) => match l[i]? with
      | none => .ok acc h
      | some x => (turn x h).bind fun y h1 => match y with
        | none => cturnsL turn n m (i + 1) acc h1
        | some v => if acc.length < SZ then cturnsL turn n m (i + 1) (acc ++ [v]) h1 else .bad
    | _ => .bad
/-- within a comprehension nothing may be raised -/
def Res.calm {α : Type} (r : Res α) : Res α :=
  match r with
  | .exc _ _ _ => .bad
  | r => r
@[simp] theorem Res.calm_ok {α : Type} (a : α) (h : Hh) : (Res.ok a h).calm = .ok a h := rfl
@[simp] theorem Res.calm_bad {α : Type} : (Res.bad : Res α).calm = .bad := rfl

def wipes (sg : Sg) : List Nat → Sg
  | [] => sg
  | v :: vs => (wipes sg vs).set v none

def pairUp : List D → List (D × D) → Option (List (D × D))
  | [], acc => some acc
  | [_], _ => none
  | k :: v :: r, acc => if keyD k then pairUp r (dput acc k v) else none

mutual
def ev : E → Sg → Hh → Res D
  | .var i, sg, h => match sg[i]? with
    | some (some d) => .ok d h
    | _ => .bad
  | .cst d, _, h => .ok d h
  | .tup es, sg, h => (evs es sg h).bind fun xs h => if xs.length ≤ SZ then .ok (.tup xs) h else .bad
  | .lst es, sg, h => (evs es sg h).bind fun xs h => if xs.length ≤ SZ then alloc h (.lst xs) else .bad
  | .dct es, sg, h => (evs es sg h).bind fun xs h => (ofOpt (pairUp xs []) h).bind fun kvs h => if xs.length ≤ 30 then alloc h (.dct kvs) else .bad
  | .bin o a b, sg, h => (ev a sg h).bind fun x h => (ev b sg h).bind fun y h => binop o x y h
  | .neg a, sg, h => (ev a sg h).bind fun x h => match x with
    | .int i => .ok (.int (-i)) h
    | _ => .bad
  | .nt a, sg, h => (ev a sg h).bind fun x h => (ofOpt (truth h x) h).bind fun b h => .ok (.bl (!b)) h
  | .and a b, sg, h => (ev a sg h).bind fun x h => (ofOpt (truth h x) h).bind fun t h => if t then ev b sg h else .ok x h
  | .or a b, sg, h => (ev a sg h).bind fun x h => (ofOpt (truth h x) h).bind fun t h => if t then .ok x h else ev b sg h
  | .cmp o a b, sg, h => (ev a sg h).bind fun x h => (ev b sg h).bind fun y h => cmpop o x y h
  | .chain o p a b c, sg, h => (ev a sg h).bind fun x h => (ev b sg h).bind fun y h => (ofOpt (cmpD o x y h) h).bind fun t h =>
      if t then (ev c sg h).bind fun z h => cmpop p y z h else .ok (.bl false) h
  | .idx a i, sg, h => (ev a sg h).bind fun x h => (ev i sg h).bind fun y h => getix x y h
  | .sli a lo hi, sg, h => (ev a sg h).bind fun x h => (evo lo sg h).bind fun l h => (evo hi sg h).bind fun r h => slice x l r h
  | .call f es, sg, h => (evs es sg h).bind fun xs h => cl f xs h
  | .make c f es, sg, h => (evs es sg h).bind fun xs h => makeop cl c f xs h
  | .blt f es, sg, h => (evs es sg h).bind fun xs h => bltop f xs h
  | .mth o m es, sg, h => (ev o sg h).bind fun x h => (ofOpt (recv tb x m h) h).bind fun r h => (evs es sg h).bind fun xs h => methop cl r x m xs h
  | .fld o f, sg, h => (ev o sg h).bind fun x h => getfl x f h
  | .comp vs t i c e, sg, h => (ei i sg h).bind fun q h =>
      let turn := fun x h => ((tg t x (wipes sg vs) h).bind fun sg2 h => (evc c sg2 h).bind fun b h =>
            if b then (ev e sg2 h).bind fun v h => .ok (some v) h else .ok none h).calm
      match q with
      | .pur l => (cturns turn l [] h).bind fun r h => alloc h (.lst r)
      | .lst n => match h[n]? with
        | some (.lst l) => (cturnsL turn n (l.length + 1) 0 [] h).bind fun r h => alloc h (.lst r)
        | _ => .bad
  | .tab kvs e, sg, h => (ev e sg h).bind fun x h => match x with
    | .str s => ofOpt (fget kvs s) h
    | _ => .bad
  | .sset e, sg, h => (ev e sg h).bind fun x h => ssetop x h
  | .tzip es, sg, h => (evs es sg h).bind fun xs h => tzipL xs h
def evs : List E → Sg → Hh → Res (List D)
  | [], _, h => .ok [] h
  | e :: r, sg, h => (ev e sg h).bind fun x h => (evs r sg h).bind fun xs h => .ok (x :: xs) h
def evc : Option E → Sg → Hh → Res Bool
  | none, _, h => .ok true h
  | some e, sg, h => (ev e sg h).bind fun x h => ofOpt (truth h x) h
def evo : Option E → Sg → Hh → Res (Option Int)
  | none, _, h => .ok none h
  | some e, sg, h => (ev e sg h).bind fun x h => match x with
    | .int i => .ok (some i) h
    | _ => .bad
def tg : T → D → Sg → Hh → Res Sg
  | .nm i, v, sg, h => if i < sg.length then .ok (sg.set i (some v)) h else .bad
  | .fld o f, v, sg, h => (ev o sg h).bind fun x h => (setfl tb x f v h).bind fun _ h => .ok sg h
  | .ix a i, v, sg, h => (ev a sg h).bind fun x h => (ev i sg h).bind fun y h => (setix x y v h).bind fun _ h => .ok sg h
  | .tup ts, v, sg, h => match v with
    | .tup l => if l.length = ts.length then (tgs ts l sg h).calm else .bad
    | _ => .bad
def tgs : List T → List D → Sg → Hh → Res Sg
  | [], [], sg, h => .ok sg h
  | t :: ts, v :: vs, sg, h => (tg t v sg h).bind fun sg h => tgs ts vs sg h
  | _, _, _, _ => .bad
def ei : I → Sg → Hh → Res Sq
  | .seq e, sg, h => (ev e sg h).bind fun x h => match x with
    | .tup l => .ok (.pur l) h
    | .rol l => .ok (.pur l) h
    | .ref n => match h[n]? with
      | some (.lst _) => .ok (.lst n) h
      | _ => .bad
    | _ => .bad
  | .rng1 a, sg, h => (ev a sg h).bind fun x h => match x with
    | .int i => if inRng i then .ok (.pur (rngL 0 i)) h else .bad
    | _ => .bad
  | .rng2 a b, sg, h => (ev a sg h).bind fun x h => (ev b sg h).bind fun y h => match x, y with
    | .int i, .int j => if inRng i && inRng j then .ok (.pur (rngL i j)) h else .bad
    | _, _ => .bad
end

/-- an expression as a test -/
def et (e : E) (sg : Sg) (h : Hh) : Res Bool := (ev cl tb e sg h).bind fun x h => ofOpt (truth h x) h

mutual
def xs : S → Sg → Hh → Res (Fl × Sg)
  | .asg t e, sg, h => (ev cl tb e sg h).st sg fun v h => (tg cl tb t v sg h).st sg fun sg h => .ok (.nx, sg) h
  | .aug i o e, sg, h => match sg[i]? with
    | some (some x) => (ev cl tb e sg h).st sg fun y h => (augop o x y h).st sg fun z h => .ok (.nx, sg.set i (some z)) h
    | _ => .bad
  | .augf a f o e, sg, h => (ev cl tb a sg h).st sg fun x h => (getfl x f h).st sg fun u h => (ev cl tb e sg h).st sg fun y h => (augop o u y h).st sg fun z h => (setfl tb x f z h).st sg fun _ h => .ok (.nx, sg) h
  | .augi a i o e, sg, h => (ev cl tb a sg h).st sg fun x h => (ev cl tb i sg h).st sg fun j h => if augOk x j h then (getix x j h).st sg fun u h => (ev cl tb e sg h).st sg fun y h => (augop o u y h).st sg fun z h => (setix x j z h).st sg fun _ h => .ok (.nx, sg) h else .bad
  | .ex e, sg, h => (ev cl tb e sg h).st sg fun _ h => .ok (.nx, sg) h
  | .ret e, sg, h => (ev cl tb e sg h).st sg fun v h => .ok (.ret v, sg) h
  | .retn, sg, h => .ok (.ret .non, sg) h
  | .ite c a b, sg, h => (et cl tb c sg h).st sg fun t h => if t then xss a sg h else xss b sg h
  | .whl c b, sg, h => rounds (et cl tb c) (xss b) FUEL sg h
  | .each t i b, sg, h => (ei cl tb i sg h).st sg fun q h =>
      let body := fun x sg h => (tg cl tb t x sg h).st sg fun sg h => xss b sg h
      match q with
      | .pur l => turns body l sg h
      | .lst n => match h[n]? with
        | some (.lst l) => turnsL body n (l.length + 1) 0 sg h
        | _ => .bad
  | .brk, sg, h => .ok (.brk, sg) h
  | .cont, sg, h => .ok (.ct, sg) h
  | .pass, sg, h => .ok (.nx, sg) h
  | .del a i, sg, h => (ev cl tb a sg h).st sg fun x h => (ev cl tb i sg h).st sg fun y h => (delix x y h).st sg fun _ h => .ok (.nx, sg) h
  | .stuck, _, _ => .bad
def xss : List S → Sg → Hh → Res (Fl × Sg)
  | [], sg, h => .ok (.nx, sg) h
  | s :: r, sg, h => (xs s sg h).bind fun p h => match p.1 with
    | .nx => xss r p.2 h
    | f => .ok (f, p.2) h
end
end

/-- a def: how many parameters, how many names, the last parameters' defaults, the body -/
structure Fn where
  np : Nat
  ns : Nat
  dfl : List D
  body : List S

/-- a def's body at its arguments -/
def runF (cl : Fid → List D → Hh → Res D) (tb : Tb) (F : Fn) (args : List D) (h : Hh) : Res D :=
  match xss cl tb F.body (args.map some ++ List.replicate (F.ns - args.length) none) h with
  | .ok (.ret v, _) h => .ok v h
  | .ok (.nx, _) h => .ok .non h
  | .ok (.exc c fs, _) h => .exc c fs h
  | _ => .bad
/-- the arguments with the defaults that lack -/
def pad (F : Fn) (args : List D) : List D := args ++ F.dfl.drop (args.length + F.dfl.length - F.np)
/-- a call, over what runs a body -/
def callG (P : Fid → Option Fn) (run : Fn → List D → Hh → Res D) (f : Fid) (args : List D) (h : Hh) : Res D :=
  match P f with
  | some F => if args.length ≤ F.np ∧ F.np ≤ args.length + F.dfl.length then run F (pad F args) h else .bad
  | none => .bad
def runK (P : Fid → Option Fn) (tb : Tb) : Nat → Fn → List D → Hh → Res D
  | 0, _, _, _ => .bad
  | k + 1, F, args, h => runF (callG P (runK P tb k)) tb F args h
/-- a call, at most k deep -/
def callF (P : Fid → Option Fn) (tb : Tb) (k : Nat) : Fid → List D → Hh → Res D := callG P (runK P tb k)
end Z

/-! ZB: how the small heap lies in the layer's abstract heap; the judgements over the small language. -/
namespace Z
open PySem PySem.Spec PyProof.Rows L2

theorem toS_inj {a b : Nm} (h : toS a = toS b) : a = b := by
  unfold toS at h
  have := congrArg (fun s => s.cps.toList) h
  simpa using this
theorem toS_eq {a b : Nm} : toS a = toS b ↔ a = b := ⟨toS_inj, fun h => by rw [h]⟩
theorem toS_len (a : Nm) : (toS a).length = a.length := by simp [toS, Str.length]
theorem toS_cps (a : Nm) : (toS a).cps.toList = a := by simp [toS]
theorem toS_app (a b : Nm) : toS a ++ toS b = toS (a ++ b) := by
  show Str.append (toS a) (toS b) = toS (a ++ b)
  simp [Str.append, toS]
theorem SZ_eq : SZ = sizeLine := by rw [sizeLine_eq]; rfl

/-- texts that stand -/
def okS (s : Nm) : Prop := s.length ≤ sizeLine ∧ ∀ c ∈ s, c < 0x110000

/-- a list that never changes -/
def RoL (K : PySem.W.Frag) (H : Hp) (a : Addr) (xs : List V) : Prop :=
  (∃ o, H a = some (.frz o (.lst xs))) ∨ SqL K (fun _ => none) a xs
theorem RoL.sq {K : PySem.W.Frag} {H : Hp} {a : Addr} {xs : List V} : RoL K H a xs → SqL K H a xs
  | .inl z => .inl (.inr z)
  | .inr (.inr z) => .inr z
  | .inr (.inl (.inl z)) => by cases z
  | .inr (.inl (.inr z)) => by obtain ⟨_, z⟩ := z; cases z

/-- where the program's classes and functions stand, its tables -/
structure Gt where
  cad : Nm → Addr
  fad : Fid → Addr
  tb : Tb
/-- what is known of a class -/
structure ClsOk (K : PySem.W.Frag) (G : Gt) (c : Nm) : Prop where
  cl : Cls K (G.cad c)
  mt : ∀ m f, G.tb.mt c m = some f → Meth K (G.cad c) (toS m) (G.fad f)
  at_ : ∀ f, G.tb.at_ c f = true → NoAttr K (G.cad c) (toS f)

section
variable (K : PySem.W.Frag) (ρ : List Addr) (H : Hp)
mutual
/-- a value of the small language is a value of the layer's -/
def Rep : D → V → Prop
  | .non, v => v = .non
  | .bl b, v => v = .bl b
  | .int i, v => v = .int i
  | .str s, v => v = .str (toS s) ∧ okS s
  | .tup l, v => ∃ a vs, v = .ref a ∧ SqT K H a vs ∧ Reps l vs
  | .rol l, v => ∃ a vs, v = .ref a ∧ RoL K H a vs ∧ Reps l vs
  | .ref n, v => ∃ a, v = .ref a ∧ ρ[n]? = some a
def Reps : List D → List V → Prop
  | [], vs => vs = []
  | d :: r, vs => ∃ v ws, vs = v :: ws ∧ Rep d v ∧ Reps r ws
end
end

/-- (ρ', H') goes on from (ρ, H) -/
structure Ext (ρ : List Addr) (H : Hp) (ρ' : List Addr) (H' : Hp) : Prop where
  pre : ∀ (n : Nat) (a : Addr), ρ[n]? = some a → ρ'[n]? = some a
  new : ∀ a, a ∈ ρ' → a ∉ ρ → H a = none
  old : ∀ a o, a ∉ ρ → H a = some o → H' a = some o
  tup : ∀ a xs, H a = some (.tup xs) → H' a = some (.tup xs)
  frz : ∀ a o u, H a = some (.frz o u) → H' a = some (.frz o u)
theorem Ext.refl (ρ : List Addr) (H : Hp) : Ext ρ H ρ H := ⟨fun _ _ h => h, fun _ h n => absurd h n, fun _ _ _ h => h, fun _ _ h => h, fun _ _ _ h => h⟩
theorem Ext.mem {ρ ρ' : List Addr} {H H' : Hp} (e : Ext ρ H ρ' H') {a : Addr} (h : a ∈ ρ) : a ∈ ρ' := by
  obtain ⟨n, hn⟩ := List.mem_iff_getElem?.mp h
  exact List.mem_iff_getElem?.mpr ⟨n, e.pre n a hn⟩
theorem Ext.trans {ρ ρ1 ρ2 : List Addr} {H H1 H2 : Hp} (a : Ext ρ H ρ1 H1) (b : Ext ρ1 H1 ρ2 H2) : Ext ρ H ρ2 H2 where
  pre := fun n x h => b.pre n x (a.pre n x h)
  new := fun x h n => by
    by_cases h1 : x ∈ ρ1
    · exact a.new x h1 n
    · have z := b.new x h h1
      cases q : H x with
      | none => rfl
      | some o =>
        have := a.old x o n q
        rw [z] at this; cases this
  old := fun x o n h => b.old x o (fun h1 => by have := a.new x h1 n; rw [h] at this; cases this) (a.old x o n h)
  tup := fun x xs h => b.tup x xs (a.tup x xs h)
  frz := fun x o u h => b.frz x o u (a.frz x o u h)

/-- what keeps what stands for a value -/
structure Mon (ρ : List Addr) (H : Hp) (ρ' : List Addr) (H' : Hp) : Prop where
  pre : ∀ (n : Nat) (a : Addr), ρ[n]? = some a → ρ'[n]? = some a
  tup : ∀ a xs, H a = some (.tup xs) → H' a = some (.tup xs)
  frz : ∀ a o u, H a = some (.frz o u) → H' a = some (.frz o u)
theorem Ext.mon {ρ ρ' : List Addr} {H H' : Hp} (e : Ext ρ H ρ' H') : Mon ρ H ρ' H' := ⟨e.pre, e.tup, e.frz⟩

section
variable {K : PySem.W.Frag} {ρ ρ' : List Addr} {H H' : Hp}
theorem sqT_ext {a : Addr} {xs : List V} (ht : ∀ a xs, H a = some (.tup xs) → H' a = some (.tup xs)) (hf : ∀ a o u, H a = some (.frz o u) → H' a = some (.frz o u)) (h : SqT K H a xs) : SqT K H' a xs := by
  rcases h with (h | ⟨o, h⟩) | h
  · exact .inl (.inl (ht _ _ h))
  · exact .inl (.inr ⟨o, hf _ _ _ h⟩)
  · exact .inr h
theorem roL_ext {a : Addr} {xs : List V} (hf : ∀ a o u, H a = some (.frz o u) → H' a = some (.frz o u)) (h : RoL K H a xs) : RoL K H' a xs := by
  rcases h with ⟨o, h⟩ | h
  · exact .inl ⟨o, hf _ _ _ h⟩
  · exact .inr h
mutual
theorem Rep.mon (e : Mon ρ H ρ' H') : ∀ (d : D) (v : V), Rep K ρ H d v → Rep K ρ' H' d v
  | .non, _, h => by rw [Rep] at h ⊢; exact h
  | .bl _, _, h => by rw [Rep] at h ⊢; exact h
  | .int _, _, h => by rw [Rep] at h ⊢; exact h
  | .str _, _, h => by rw [Rep] at h ⊢; exact h
  | .tup l, _, h => by
    rw [Rep] at h ⊢
    obtain ⟨a, vs, h1, h2, h3⟩ := h
    exact ⟨a, vs, h1, sqT_ext e.tup e.frz h2, Reps.mon e l vs h3⟩
  | .rol l, _, h => by
    rw [Rep] at h ⊢
    obtain ⟨a, vs, h1, h2, h3⟩ := h
    exact ⟨a, vs, h1, roL_ext e.frz h2, Reps.mon e l vs h3⟩
  | .ref n, _, h => by
    rw [Rep] at h ⊢
    obtain ⟨a, h1, h2⟩ := h
    exact ⟨a, h1, e.pre _ _ h2⟩
theorem Reps.mon (e : Mon ρ H ρ' H') : ∀ (l : List D) (vs : List V), Reps K ρ H l vs → Reps K ρ' H' l vs
  | [], _, h => by rw [Reps] at h ⊢; exact h
  | d :: r, _, h => by
    rw [Reps] at h ⊢
    obtain ⟨v, ws, h1, h2, h3⟩ := h
    exact ⟨v, ws, h1, Rep.mon e d v h2, Reps.mon e r ws h3⟩
end
theorem Rep.ext (e : Ext ρ H ρ' H') (d : D) (v : V) (h : Rep K ρ H d v) : Rep K ρ' H' d v := Rep.mon e.mon d v h
theorem Reps.ext (e : Ext ρ H ρ' H') (l : List D) (vs : List V) (h : Reps K ρ H l vs) : Reps K ρ' H' l vs := Reps.mon e.mon l vs h
theorem Reps.length : ∀ {l : List D} {vs : List V}, Reps K ρ H l vs → l.length = vs.length
  | [], _, h => by rw [Reps] at h; subst h; rfl
  | d :: r, _, h => by
    rw [Reps] at h
    obtain ⟨v, ws, rfl, _, h3⟩ := h
    simp [Reps.length h3]
theorem Reps.nil : Reps K ρ H [] [] := by rw [Reps]
theorem Reps.cons {d : D} {v : V} {l : List D} {vs : List V} (h : Rep K ρ H d v) (r : Reps K ρ H l vs) : Reps K ρ H (d :: l) (v :: vs) := by rw [Reps]; exact ⟨v, vs, rfl, h, r⟩
theorem Reps.get : ∀ {l : List D} {vs : List V} {i : Nat} {d : D}, Reps K ρ H l vs → l[i]? = some d → ∃ v, vs[i]? = some v ∧ Rep K ρ H d v
  | [], _, _, _, _, e => by simp at e
  | d :: r, _, 0, x, h, e => by
    rw [Reps] at h
    obtain ⟨v, ws, rfl, h2, h3⟩ := h
    simp at e; subst e
    exact ⟨v, rfl, h2⟩
  | d :: r, _, i + 1, x, h, e => by
    rw [Reps] at h
    obtain ⟨v, ws, rfl, h2, h3⟩ := h
    obtain ⟨w, h4, h5⟩ := Reps.get (i := i) h3 (by simpa using e)
    exact ⟨w, by simpa using h4, h5⟩
theorem Reps.app : ∀ {l m : List D} {vs ws : List V}, Reps K ρ H l vs → Reps K ρ H m ws → Reps K ρ H (l ++ m) (vs ++ ws)
  | [], _, _, _, h, q => by rw [Reps] at h; subst h; simpa using q
  | d :: r, _, _, _, h, q => by
    rw [Reps] at h
    obtain ⟨v, us, rfl, h2, h3⟩ := h
    exact Reps.cons h2 (Reps.app h3 q)
theorem Reps.take : ∀ {l : List D} {vs : List V} (n : Nat), Reps K ρ H l vs → Reps K ρ H (l.take n) (vs.take n)
  | [], _, n, h => by rw [Reps] at h; subst h; simp [Reps]
  | d :: r, _, 0, h => by simp [Reps]
  | d :: r, _, n + 1, h => by
    rw [Reps] at h
    obtain ⟨v, us, rfl, h2, h3⟩ := h
    exact Reps.cons h2 (Reps.take n h3)
theorem Reps.drop : ∀ {l : List D} {vs : List V} (n : Nat), Reps K ρ H l vs → Reps K ρ H (l.drop n) (vs.drop n)
  | [], _, n, h => by rw [Reps] at h; subst h; simp [Reps]
  | d :: r, _, 0, h => by simpa using h
  | d :: r, _, n + 1, h => by
    rw [Reps] at h
    obtain ⟨v, us, rfl, h2, h3⟩ := h
    exact Reps.drop n h3
theorem Reps.set : ∀ {l : List D} {vs : List V} (i : Nat) {d : D} {v : V}, Reps K ρ H l vs → Rep K ρ H d v → Reps K ρ H (l.set i d) (vs.set i v)
  | [], _, i, _, _, h, _ => by rw [Reps] at h; subst h; simp [Reps]
  | x :: r, _, 0, _, _, h, q => by
    rw [Reps] at h
    obtain ⟨v, us, rfl, h2, h3⟩ := h
    exact Reps.cons q h3
  | x :: r, _, i + 1, _, _, h, q => by
    rw [Reps] at h
    obtain ⟨v, us, rfl, h2, h3⟩ := h
    exact Reps.cons h2 (Reps.set i h3 q)
theorem Reps.isEmpty {l : List D} {vs : List V} (h : Reps K ρ H l vs) : vs.isEmpty = l.isEmpty := by
  cases l with
  | nil => rw [Reps] at h; subst h; rfl
  | cons d r => rw [Reps] at h; obtain ⟨v, us, rfl, _⟩ := h; rfl
end

section
variable (K : PySem.W.Frag) (G : Gt) (ρ : List Addr) (H : Hp)
/-- a key -/
def RepK : D → Key → Prop
  | .int i, k => k = .inl i
  | .str s, k => k = .inr (toS s) ∧ okS s
  | _, _ => False
inductive RepD : List (D × D) → List (Key × V) → Prop where
  | nil : RepD [] []
  | cons {k d : D} {κ : Key} {v : V} {r : List (D × D)} {s : List (Key × V)} : RepK k κ → Rep K ρ H d v → RepD r s → RepD ((k, d) :: r) ((κ, v) :: s)
inductive RepF (N : Str → Prop) : List (Nm × D) → List (Str × V) → Prop where
  | nil : RepF N [] []
  | cons {f : Nm} {d : D} {v : V} {r : List (Nm × D)} {s : List (Str × V)} : N (toS f) → Rep K ρ H d v → RepF N r s → RepF N ((f, d) :: r) ((toS f, v) :: s)
/-- an object of the small heap stands at a -/
def ObjR : O → Addr → Prop
  | .lst l, a => ∃ vs, H a = some (.lst vs) ∧ Reps K ρ H l vs
  | .dct l, a => ∃ ps, H a = some (.dK ps) ∧ RepD K ρ H l ps
  | .ins c fs, a => ∃ dx vs, H a = some (.ins (G.cad c) dx vs) ∧ RepF K ρ H (NoAttr K (G.cad c)) fs vs ∧ ClsOk K G c
  | .set _, _ => False
structure Sim (h : Hh) : Prop where
  len : ρ.length = h.length
  nd : ρ.Nodup
  ob : ∀ (n : Nat) (o : O) (a : Addr), h[n]? = some o → ρ[n]? = some a → ObjR K G ρ H o a
  liv : ∀ a ∈ ρ, H a ≠ none
end
section
variable {K : PySem.W.Frag} {G : Gt} {ρ ρ' : List Addr} {H H' : Hp}
theorem RepD.mon (e : Mon ρ H ρ' H') {l : List (D × D)} {ps : List (Key × V)} (h : RepD K ρ H l ps) : RepD K ρ' H' l ps := by
  induction h with
  | nil => exact .nil
  | cons h1 h2 _ ih => exact .cons h1 (Rep.mon e _ _ h2) ih
theorem RepD.ext (e : Ext ρ H ρ' H') {l : List (D × D)} {ps : List (Key × V)} (h : RepD K ρ H l ps) : RepD K ρ' H' l ps := h.mon e.mon
theorem RepF.mon (e : Mon ρ H ρ' H') {N : Str → Prop} {l : List (Nm × D)} {ps : List (Str × V)} (h : RepF K ρ H N l ps) : RepF K ρ' H' N l ps := by
  induction h with
  | nil => exact .nil
  | cons h0 h1 _ ih => exact .cons h0 (Rep.mon e _ _ h1) ih
theorem RepF.ext (e : Ext ρ H ρ' H') {N : Str → Prop} {l : List (Nm × D)} {ps : List (Str × V)} (h : RepF K ρ H N l ps) : RepF K ρ' H' N l ps := h.mon e.mon
/-- an object at an address that did not change -/
theorem ObjR.mon (e : Mon ρ H ρ' H') {o : O} {a : Addr} (q : H' a = H a) (h : ObjR K G ρ H o a) : ObjR K G ρ' H' o a := by
  cases o with
  | lst l => obtain ⟨vs, h1, h2⟩ := h; exact ⟨vs, q.trans h1, Reps.mon e _ _ h2⟩
  | dct l => obtain ⟨ps, h1, h2⟩ := h; exact ⟨ps, q.trans h1, h2.mon e⟩
  | ins c fs => obtain ⟨dx, vs, h1, h2, h3⟩ := h; exact ⟨dx, vs, q.trans h1, h2.mon e, h3⟩
  | set _ => exact h
theorem ObjR.ext (e : Ext ρ H ρ' H') {o : O} {a : Addr} (q : H' a = H a) (h : ObjR K G ρ H o a) : ObjR K G ρ' H' o a := h.mon e.mon q
theorem ObjR.ntup {o : O} {a : Addr} (h : ObjR K G ρ H o a) : (∀ xs, H a ≠ some (.tup xs)) ∧ (∀ ob u, H a ≠ some (.frz ob u)) := by
  cases o with
  | lst l => obtain ⟨vs, h1, h2⟩ := h; rw [h1]; exact ⟨fun _ z => (by cases z), fun _ _ z => (by cases z)⟩
  | dct l => obtain ⟨vs, h1, h2⟩ := h; rw [h1]; exact ⟨fun _ z => (by cases z), fun _ _ z => (by cases z)⟩
  | ins c fs => obtain ⟨dx, vs, h1, h2, h3⟩ := h; rw [h1]; exact ⟨fun _ z => (by cases z), fun _ _ z => (by cases z)⟩
  | set _ => exact False.elim h
/-- the place of an object -/
theorem Sim.at_ {h : Hh} (S : Sim K G ρ H h) {n : Nat} {o : O} (e : h[n]? = some o) : ∃ a, ρ[n]? = some a ∧ ObjR K G ρ H o a := by
  have hn : n < h.length := by
    by_cases q : n < h.length
    · exact q
    · rw [List.getElem?_eq_none (by omega)] at e; cases e
  have hr : n < ρ.length := by rw [S.len]; exact hn
  exact ⟨ρ[n], by simp [hr], S.ob n o _ e (by simp [hr])⟩
/-- a new address: nothing of ours lies there -/
theorem ext_tmp {a : Addr} {o : HO} (hn : H a = none) (hx : a ∉ ρ) : Ext ρ H ρ (upd H a o) where
  pre := fun _ _ h => h
  new := fun _ h n => absurd h n
  old := fun b u _ h => by rw [upd_ne (ne_of_none h hn)]; exact h
  tup := fun b xs h => by rw [upd_ne (ne_of_none h hn)]; exact h
  frz := fun b ob u h => by rw [upd_ne (ne_of_none h hn)]; exact h
theorem ext_new {a : Addr} {o : HO} (hn : H a = none) : Ext ρ H (ρ ++ [a]) (upd H a o) where
  pre := fun n b h => by
    have hl : n < ρ.length := by
      by_cases q : n < ρ.length
      · exact q
      · rw [List.getElem?_eq_none (by omega)] at h; cases h
    rw [List.getElem?_append_left hl]; exact h
  new := fun b h n => by
    rcases List.mem_append.mp h with h | h
    · exact absurd h n
    · rw [List.mem_singleton.mp h]; exact hn
  old := fun b u _ h => by rw [upd_ne (ne_of_none h hn)]; exact h
  tup := fun b xs h => by rw [upd_ne (ne_of_none h hn)]; exact h
  frz := fun b ob u h => by rw [upd_ne (ne_of_none h hn)]; exact h
theorem Sim.fresh {h : Hh} (S : Sim K G ρ H h) {a : Addr} (hn : H a = none) : a ∉ ρ := fun m => S.liv a m hn
/-- nothing of ours changed -/
theorem Sim.keep {h : Hh} (S : Sim K G ρ H h) (e : Ext ρ H ρ H') (q : ∀ a ∈ ρ, H' a = H a) : Sim K G ρ H' h :=
  ⟨S.len, S.nd, fun n o a h1 h2 => (S.ob n o a h1 h2).ext e (q a (List.mem_of_getElem? h2)), fun a m => by rw [q a m]; exact S.liv a m⟩
theorem Sim.tmp {h : Hh} (S : Sim K G ρ H h) {a : Addr} {o : HO} (hn : H a = none) : Sim K G ρ (upd H a o) h :=
  S.keep (ext_tmp hn (S.fresh hn)) fun b m => upd_ne fun z => S.fresh hn (by rw [← z]; exact m)
theorem mon_new {a : Addr} {o : HO} (h1 : ∀ xs, H a ≠ some (.tup xs)) (h2 : ∀ ob u, H a ≠ some (.frz ob u)) : Mon ρ H (ρ ++ [a]) (upd H a o) where
  pre := fun n b h => by
    have hl : n < ρ.length := by
      by_cases q : n < ρ.length
      · exact q
      · rw [List.getElem?_eq_none (by omega)] at h; cases h
    rw [List.getElem?_append_left hl]; exact h
  tup := fun b xs h => by rw [upd_ne (fun z => h1 xs (by rw [← z]; exact h))]; exact h
  frz := fun b ob u h => by rw [upd_ne (fun z => h2 ob u (by rw [← z]; exact h))]; exact h
theorem mon_tmp {a : Addr} {o : HO} (h1 : ∀ xs, H a ≠ some (.tup xs)) (h2 : ∀ ob u, H a ≠ some (.frz ob u)) : Mon ρ H ρ (upd H a o) := ⟨fun _ _ h => h, (mon_new (ρ := ρ) h1 h2).tup, (mon_new (ρ := ρ) h1 h2).frz⟩
/-- a new object, at a place that is not of ours -/
theorem Sim.new0 {h : Hh} (S : Sim K G ρ H h) {a : Addr} {o : O} {u : HO} (hx : a ∉ ρ) (h1 : ∀ xs, H a ≠ some (.tup xs)) (h2 : ∀ ob u, H a ≠ some (.frz ob u)) (q : ObjR K G (ρ ++ [a]) (upd H a u) o a) : Sim K G (ρ ++ [a]) (upd H a u) (h ++ [o]) where
  len := by simp [S.len]
  nd := by
    rw [List.nodup_append]
    refine ⟨S.nd, by simp, fun x hx' y hy => ?_⟩
    rw [List.mem_singleton.mp hy]
    rintro rfl
    exact hx hx'
  ob := fun n o' b e1 e2 => by
    by_cases hl : n < ρ.length
    · rw [List.getElem?_append_left hl] at e2
      rw [List.getElem?_append_left (by rw [← S.len]; exact hl)] at e1
      exact (S.ob n o' b e1 e2).mon (mon_new h1 h2) (upd_ne fun z => hx (by rw [← z]; exact List.mem_of_getElem? e2))
    · have e3 : n = ρ.length := by
        by_cases q : n < (ρ ++ [a]).length
        · simp at q; omega
        · rw [List.getElem?_eq_none (by omega)] at e2; cases e2
      subst e3
      have e2 : b = a := by simpa using e2.symm
      subst e2
      have e1 : o' = o := by rw [S.len] at e1; simpa using e1.symm
      subst e1
      exact q
  liv := fun b m => by
    rcases List.mem_append.mp m with m | m
    · rw [upd_ne (fun z => hx (by rw [← z]; exact m))]; exact S.liv b m
    · rw [List.mem_singleton.mp m, upd_same]; intro z; cases z
theorem Sim.new {h : Hh} (S : Sim K G ρ H h) {a : Addr} {o : O} {u : HO} (hn : H a = none) (q : ObjR K G (ρ ++ [a]) (upd H a u) o a) : Sim K G (ρ ++ [a]) (upd H a u) (h ++ [o]) :=
  S.new0 (S.fresh hn) (fun _ z => by rw [hn] at z; cases z) (fun _ _ z => by rw [hn] at z; cases z) q
/-- something that is not of ours changed -/
theorem Sim.put {h : Hh} (S : Sim K G ρ H h) {a : Addr} {u : HO} (hx : a ∉ ρ) (h1 : ∀ xs, H a ≠ some (.tup xs)) (h2 : ∀ ob u, H a ≠ some (.frz ob u)) : Sim K G ρ (upd H a u) h where
  len := S.len
  nd := S.nd
  ob := fun n o b e1 e2 => (S.ob n o b e1 e2).mon (mon_tmp h1 h2) (upd_ne fun z => hx (by rw [← z]; exact List.mem_of_getElem? e2))
  liv := fun b m => by rw [upd_ne (fun z => hx (by rw [← z]; exact m))]; exact S.liv b m
theorem ext_wr {h : Hh} (S : Sim K G ρ H h) {n : Nat} {a : Addr} {o : O} {u : HO} (hn : h[n]? = some o) (ha : ρ[n]? = some a) : Ext ρ H ρ (upd H a u) where
  pre := fun _ _ h => h
  new := fun _ h n => absurd h n
  old := fun b w hb e => by rw [upd_ne (fun z => hb (by rw [z]; exact List.mem_of_getElem? ha))]; exact e
  tup := fun b xs e => by
    rw [upd_ne]
    · exact e
    · rintro rfl
      exact (S.ob n o b hn ha).ntup.1 xs e
  frz := fun b ob w e => by
    rw [upd_ne]
    · exact e
    · rintro rfl
      exact (S.ob n o b hn ha).ntup.2 ob w e
/-- an object is changed -/
theorem Sim.wr {h : Hh} (S : Sim K G ρ H h) {n : Nat} {a : Addr} {o o' : O} {u : HO} (hn : h[n]? = some o) (ha : ρ[n]? = some a) (q : ObjR K G ρ (upd H a u) o' a) : Sim K G ρ (upd H a u) (h.set n o') where
  len := by simp [S.len]
  nd := S.nd
  ob := fun m x b h1 h2 => by
    by_cases e : n = m
    · subst e
      rw [ha] at h2; cases h2
      have hl : n < h.length := by
        by_cases q : n < h.length
        · exact q
        · rw [List.getElem?_eq_none (by omega)] at hn; cases hn
      rw [List.getElem?_set_self hl] at h1; cases h1
      exact q
    · rw [List.getElem?_set_ne e] at h1
      refine (S.ob m x b h1 h2).ext (ext_wr S hn ha) (upd_ne ?_)
      rintro rfl
      exact e (nd_ix S.nd ha h2)
  liv := fun b m => by
    by_cases e : b = a
    · rw [e, upd_same]; intro z; cases z
    · rw [upd_ne e]; exact S.liv b m

/-- the names' values -/
structure RepS (K : PySem.W.Frag) (ρ : List Addr) (H : Hp) (sg : Sg) (σ : L2.St) : Prop where
  len : sg.length = σ.length
  val : ∀ (i : Nat) (d : D), sg[i]? = some (some d) → ∃ v, σ[i]? = some (some v) ∧ Rep K ρ H d v
theorem RepS.mon (e : Mon ρ H ρ' H') {sg : Sg} {σ : L2.St} (h : RepS K ρ H sg σ) : RepS K ρ' H' sg σ :=
  ⟨h.len, fun i d q => let ⟨v, h1, h2⟩ := h.val i d q; ⟨v, h1, Rep.mon e _ _ h2⟩⟩
theorem RepS.ext (e : Ext ρ H ρ' H') {sg : Sg} {σ : L2.St} (h : RepS K ρ H sg σ) : RepS K ρ' H' sg σ := h.mon e.mon
theorem RepS.set {sg : Sg} {σ : L2.St} (h : RepS K ρ H sg σ) (i : Nat) {d : D} {v : V} (r : Rep K ρ H d v) : RepS K ρ H (sg.set i (some d)) (σ.set i (some v)) := by
  refine ⟨by simp [h.len], fun j x q => ?_⟩
  by_cases e : i = j
  · subst e
    have hl : i < sg.length := by
      by_cases z : i < sg.length
      · exact z
      · rw [List.getElem?_eq_none (by simp; omega)] at q; cases q
    rw [List.getElem?_set_self hl] at q
    cases q
    exact ⟨v, List.getElem?_set_self (by rw [← h.len]; exact hl), r⟩
  · rw [List.getElem?_set_ne e] at q ⊢
    exact h.val j x q
theorem RepS.wipe {sg : Sg} {σ : L2.St} (h : RepS K ρ H sg σ) : ∀ vs : List Nat, RepS K ρ H (wipes sg vs) (L2.wipe σ vs)
  | [] => h
  | v :: vs => by
    have ih := RepS.wipe h vs
    refine ⟨by simp [wipes, L2.wipe, ih.len], fun j x q => ?_⟩
    unfold wipes at q
    unfold L2.wipe
    by_cases e : v = j
    · subst e
      by_cases hl : v < (wipes sg vs).length
      · rw [List.getElem?_set_self hl] at q; cases q
      · rw [List.getElem?_eq_none (by simp; omega)] at q; cases q
    · rw [List.getElem?_set_ne e] at q ⊢
      exact ih.val j x q
end

/-! ### what comes out -/
/-- the exception that is raised -/
def ExR (K : PySem.W.Frag) (ρ : List Addr) (H : Hp) (fs : List (Nm × D)) (d : Option Addr) : Prop :=
  (fs = [] ∧ d = none) ∨ ∃ a vs, d = some a ∧ a ∉ ρ ∧ H a = some (.xd vs) ∧ RepF K ρ H (fun _ => True) fs vs
section
variable (K : PySem.W.Frag) (G : Gt) (W : WX) (σ : L2.St) (ρ : List Addr) (H : Hp)
def Out {α : Type} (P : List Addr → Hp → Hh → α → Prop) : Res α → Prop
  | .ok a h' => ∀ ρ' H', Ext ρ H ρ' H' → Sim K G ρ' H' h' → P ρ' H' h' a
  | .exc c fs h' => ∀ ρ' H' d, Ext ρ H ρ' H' → Sim K G ρ' H' h' → ExR K ρ' H' fs d → W (.ref (G.cad c)) d σ H'
  | .bad => False
end
section
variable {K : PySem.W.Frag} {G : Gt} {W : WX} {σ : L2.St} {ρ ρ' : List Addr} {H H' : Hp} {α β : Type}
theorem Out.ext {P : List Addr → Hp → Hh → α → Prop} {r : Res α} (e : Ext ρ H ρ' H') (o : Out K G W σ ρ H P r) : Out K G W σ ρ' H' P r := by
  cases r with
  | ok a h => exact fun ρ2 H2 e2 S => o ρ2 H2 (e.trans e2) S
  | exc c fs h => exact fun ρ2 H2 d e2 S x => o ρ2 H2 d (e.trans e2) S x
  | bad => exact o
theorem Out.imp {P P' : List Addr → Hp → Hh → α → Prop} {r : Res α} (o : Out K G W σ ρ H P r) (f : ∀ ρ' H' h' a, Ext ρ H ρ' H' → Sim K G ρ' H' h' → P ρ' H' h' a → P' ρ' H' h' a) : Out K G W σ ρ H P' r := by
  cases r with
  | ok a h => exact fun ρ2 H2 e2 S => f ρ2 H2 h a e2 S (o ρ2 H2 e2 S)
  | exc c fs h => exact o
  | bad => exact o
theorem Out.bind {P : List Addr → Hp → Hh → β → Prop} {r : Res α} {f : α → Hh → Res β} (o : Out K G W σ ρ H P (r.bind f)) : Out K G W σ ρ H (fun ρ1 H1 h1 a => Out K G W σ ρ1 H1 P (f a h1)) r := by
  cases r with
  | ok a h => exact fun ρ1 H1 e S => Out.ext e o
  | exc c fs h => exact o
  | bad => exact o
theorem Out.now {P : List Addr → Hp → Hh → α → Prop} {a : α} {h : Hh} (S : Sim K G ρ H h) (o : Out K G W σ ρ H P (.ok a h)) : P ρ H h a := o ρ H (Ext.refl _ _) S
end

/-! ### the judgements -/
section
variable (G : Gt) (X : Cx) (W : WX)
/-- an expression does what m says -/
def tD (m : Sg → Hh → Res D) : TE := fun σ H Q => ∃ ρ sg h, Sim X.K G ρ H h ∧ RepS X.K ρ H sg σ ∧ Out X.K G W σ ρ H (fun ρ' H' _ d => ∀ v, Rep X.K ρ' H' d v → Q v H') (m sg h)
def tDs (m : Sg → Hh → Res (List D)) : TA := fun σ H Q => ∃ ρ sg h, Sim X.K G ρ H h ∧ RepS X.K ρ H sg σ ∧ Out X.K G W σ ρ H (fun ρ' H' _ ds => ∀ vs, Reps X.K ρ' H' ds vs → Q vs H') (m sg h)
def tBo (m : Sg → Hh → Res Bool) : TT := fun σ H Q => ∃ ρ sg h, Sim X.K G ρ H h ∧ RepS X.K ρ H sg σ ∧ Out X.K G W σ ρ H (fun _ H' _ b => Q b H') (m sg h)
def tOi (m : Sg → Hh → Res (Option Int)) : L2.TO := fun σ H Q => ∃ ρ sg h, Sim X.K G ρ H h ∧ RepS X.K ρ H sg σ ∧ Out X.K G W σ ρ H (fun _ H' _ b => Q b H') (m sg h)
/-- what a statement's end asks -/
def EndR (D : Ends) (ρ : List Addr) (H : Hp) (p : Fl × Sg) : Prop := ∀ σ', RepS X.K ρ H p.2 σ' → match p.1 with
  | .nx => D.nx σ' H
  | .brk => D.bk σ' H
  | .ct => D.ct σ' H
  | .ret d => ∀ v, Rep X.K ρ H d v → D.rt v H
  | .exc c fs => ∀ d, ExR X.K ρ H fs d → W (.ref (G.cad c)) d σ' H
def tSt (m : Sg → Hh → Res (Fl × Sg)) : TS := fun D σ H => ∃ ρ sg h, Sim X.K G ρ H h ∧ RepS X.K ρ H sg σ ∧ Out X.K G (fun _ _ _ _ => False) σ ρ H (fun ρ' H' _ p => EndR G X W D ρ' H' p) (m sg h)
/-- only the names at ns were set -/
def Same (ns : List Nat) (σ σ' : L2.St) : Prop := σ'.length = σ.length ∧ ∀ j, j ∉ ns → σ'[j]? = σ[j]?
/-- a target -/
def tTg (ns : List Nat) (m : D → Sg → Hh → Res Sg) : TG := fun v σ H Q => ∃ ρ sg h d, Sim X.K G ρ H h ∧ RepS X.K ρ H sg σ ∧ Rep X.K ρ H d v ∧ Out X.K G W σ ρ H (fun ρ' H' _ sg' => ∀ σ', RepS X.K ρ' H' sg' σ' → Same ns σ σ' → Q σ' H') (m d sg h)
def tTgs (ns : List Nat) (m : List D → Sg → Hh → Res Sg) : TGs := fun vs σ H Q => ∃ ρ sg h ds, Sim X.K G ρ H h ∧ RepS X.K ρ H sg σ ∧ Reps X.K ρ H ds vs ∧ Out X.K G (fun _ _ _ _ => False) σ ρ H (fun ρ' H' _ sg' => ∀ σ', RepS X.K ρ' H' sg' σ' → Same ns σ σ' → Q σ' H') (m ds sg h)
end
theorem PE.mono {X : Cx} {e : Expr} {t t' : TE} (h : PE X e t) (m : ∀ σ H Q, t' σ H Q → t σ H Q) : PE X e t' := ⟨fun pins s σ H Q I q => h.run pins s σ H Q I (m σ H Q q)⟩
theorem PT.mono {X : Cx} {e : Expr} {t t' : TT} (h : PT X e t) (m : ∀ σ H Q, t' σ H Q → t σ H Q) : PT X e t' := ⟨fun pins s σ H Q I q => h.run pins s σ H Q I (m σ H Q q)⟩
theorem PA.mono {X : Cx} {es : List Expr} {t t' : TA} (h : PA X es t) (m : ∀ σ H Q, t' σ H Q → t σ H Q) : PA X es t' := ⟨fun pos pins s σ H Q I q => h.run pos pins s σ H Q I (m σ H Q q)⟩
theorem PS.mono {X : Cx} {st : Stmt} {t t' : TS} (h : PS X st t) (m : ∀ D σ H, t' D σ H → t D σ H) : PS X st t' := ⟨fun pins s σ H D I q => h.run pins s σ H D I (m D σ H q)⟩
theorem PSs.mono {X : Cx} {st : List Stmt} {t t' : TS} (h : PSs X st t) (m : ∀ D σ H, t' D σ H → t D σ H) : PSs X st t' := ⟨fun pins s σ H D I q => h.run pins s σ H D I (m D σ H q)⟩
theorem PG.mono {X : Cx} {e : Expr} {t t' : TG} (h : PG X e t) (m : ∀ v σ H Q, t' v σ H Q → t v σ H Q) : PG X e t' := ⟨fun pins s σ H v u Q I r q => h.run pins s σ H v u Q I r (m v σ H Q q)⟩
end Z

/-! ZC: the operations of the small language are the layer's. -/
namespace Z
open PySem PySem.Spec PyProof.Rows L2

section
variable {K : PySem.W.Frag} {G : Gt} {ρ : List Addr} {H : Hp}
theorem rep_non {v : V} : Rep K ρ H .non v ↔ v = .non := by rw [Rep]
theorem rep_bl {b : Bool} {v : V} : Rep K ρ H (.bl b) v ↔ v = .bl b := by rw [Rep]
theorem rep_int {i : Int} {v : V} : Rep K ρ H (.int i) v ↔ v = .int i := by rw [Rep]
theorem rep_str {s : Nm} {v : V} : Rep K ρ H (.str s) v ↔ v = .str (toS s) ∧ okS s := by rw [Rep]
theorem rep_tup {l : List D} {v : V} : Rep K ρ H (.tup l) v ↔ ∃ a vs, v = .ref a ∧ SqT K H a vs ∧ Reps K ρ H l vs := by rw [Rep]
theorem rep_rol {l : List D} {v : V} : Rep K ρ H (.rol l) v ↔ ∃ a vs, v = .ref a ∧ RoL K H a vs ∧ Reps K ρ H l vs := by rw [Rep]
theorem rep_ref {n : Nat} {v : V} : Rep K ρ H (.ref n) v ↔ ∃ a, v = .ref a ∧ ρ[n]? = some a := by rw [Rep]
/-- a list of the heap -/
theorem Sim.lst {h : Hh} (S : Sim K G ρ H h) {n : Nat} {l : List D} {v : V} (e : h[n]? = some (.lst l)) (r : Rep K ρ H (.ref n) v) : ∃ a vs, v = .ref a ∧ ρ[n]? = some a ∧ H a = some (.lst vs) ∧ Reps K ρ H l vs := by
  obtain ⟨a, rfl, ha⟩ := rep_ref.mp r
  obtain ⟨vs, h1, h2⟩ := S.ob n _ a e ha
  exact ⟨a, vs, rfl, ha, h1, h2⟩
theorem Sim.dct {h : Hh} (S : Sim K G ρ H h) {n : Nat} {l : List (D × D)} {v : V} (e : h[n]? = some (.dct l)) (r : Rep K ρ H (.ref n) v) : ∃ a ps, v = .ref a ∧ ρ[n]? = some a ∧ H a = some (.dK ps) ∧ RepD K ρ H l ps := by
  obtain ⟨a, rfl, ha⟩ := rep_ref.mp r
  obtain ⟨vs, h1, h2⟩ := S.ob n _ a e ha
  exact ⟨a, vs, rfl, ha, h1, h2⟩
theorem Sim.ins {h : Hh} (S : Sim K G ρ H h) {n : Nat} {c : Nm} {fs : List (Nm × D)} {v : V} (e : h[n]? = some (.ins c fs)) (r : Rep K ρ H (.ref n) v) : ∃ a dx vs, v = .ref a ∧ ρ[n]? = some a ∧ H a = some (.ins (G.cad c) dx vs) ∧ RepF K ρ H (NoAttr K (G.cad c)) fs vs ∧ ClsOk K G c := by
  obtain ⟨a, rfl, ha⟩ := rep_ref.mp r
  obtain ⟨dx, vs, h1, h2, h3⟩ := S.ob n _ a e ha
  exact ⟨a, dx, vs, rfl, ha, h1, h2, h3⟩

/-! ### data -/
theorem strOk_of {s : Nm} (h : okS s) : PyData.strOk (toS s) = true := by
  unfold PyData.strOk toS
  simp only [List.all_toArray, List.all_eq_true, decide_eq_true_eq]
  exact h.2
theorem mapO_ok {h : Hh} {n : Nat} (f : ∀ d v p, Rep K ρ H d v → pyH n h d = some p → Dp K H v p ∧ p.canLay0 = true ∧ p.depth ≤ n) :
    ∀ (l : List D) (vs : List V) (ps : List PyData), Reps K ρ H l vs → mapO (pyH n h) l = some ps → DpAll K H vs ps ∧ PyData.canLayAll0 ps = true ∧ PyData.depthAll ps ≤ n
  | [], vs, ps, r, e => by
    rw [Reps] at r; subst r
    simp only [mapO, Option.some.injEq] at e; subst e
    exact ⟨.nil, by simp [PyData.canLayAll0], by simp [PyData.depthAll]⟩
  | d :: l, vs, ps, r, e => by
    rw [Reps] at r
    obtain ⟨v, ws, rfl, r1, r2⟩ := r
    simp only [mapO] at e
    cases e1 : pyH n h d with
    | none => rw [e1] at e; cases e
    | some p =>
      rw [e1] at e
      cases e2 : mapO (pyH n h) l with
      | none => simp only [e2] at e; cases e
      | some qs =>
        simp only [e2, Option.some.injEq] at e
        subst e
        obtain ⟨a1, a2, a3⟩ := f d v p r1 e1
        obtain ⟨b1, b2, b3⟩ := mapO_ok f l ws qs r2 e2
        exact ⟨.cons a1 b1, by simp [PyData.canLayAll0, a2, b2], by simp only [PyData.depthAll]; omega⟩
theorem pyH_ok {h : Hh} (S : Sim K G ρ H h) : ∀ (n : Nat) (d : D) (v : V) (p : PyData), Rep K ρ H d v → pyH n h d = some p → Dp K H v p ∧ p.canLay0 = true ∧ p.depth ≤ n
  | n, .non, v, p, r, e => by
    rw [rep_non] at r; subst r
    simp only [pyH, Option.some.injEq] at e; subst e
    exact ⟨.non, by simp [PyData.canLay0], by simp [PyData.depth]⟩
  | n, .bl b, v, p, r, e => by
    rw [rep_bl] at r; subst r
    simp only [pyH, Option.some.injEq] at e; subst e
    exact ⟨.bl b, by simp [PyData.canLay0], by simp [PyData.depth]⟩
  | n, .int b, v, p, r, e => by
    rw [rep_int] at r; subst r
    simp only [pyH, Option.some.injEq] at e; subst e
    exact ⟨.int b, by simp [PyData.canLay0], by simp [PyData.depth]⟩
  | n, .str b, v, p, r, e => by
    rw [rep_str] at r; obtain ⟨rfl, o⟩ := r
    simp only [pyH, Option.some.injEq] at e; subst e
    exact ⟨.str _, by simp [PyData.canLay0, strOk_of o], by simp [PyData.depth]⟩
  | 0, .tup _, _, _, _, e => by simp [pyH] at e
  | 0, .rol _, _, _, _, e => by simp [pyH] at e
  | 0, .ref _, _, _, _, e => by simp [pyH] at e
  | n + 1, .tup l, v, p, r, e => by
    rw [rep_tup] at r; obtain ⟨a, vs, rfl, h1, h2⟩ := r
    simp only [pyH] at e
    cases e2 : mapO (pyH n h) l with
    | none => rw [e2] at e; cases e
    | some qs =>
      rw [e2] at e; cases e
      obtain ⟨b1, b2, b3⟩ := mapO_ok (pyH_ok S n) l vs qs h2 e2
      exact ⟨.tup h1 b1, by simp [PyData.canLay0, b2], by simp only [PyData.depth]; omega⟩
  | n + 1, .rol l, v, p, r, e => by
    rw [rep_rol] at r; obtain ⟨a, vs, rfl, h1, h2⟩ := r
    simp only [pyH] at e
    cases e2 : mapO (pyH n h) l with
    | none => rw [e2] at e; cases e
    | some qs =>
      rw [e2] at e; cases e
      obtain ⟨b1, b2, b3⟩ := mapO_ok (pyH_ok S n) l vs qs h2 e2
      exact ⟨.lst h1.sq b1, by simp [PyData.canLay0, b2], by simp only [PyData.depth]; omega⟩
  | n + 1, .ref k, v, p, r, e => by
    simp only [pyH] at e
    cases e1 : h[k]? with
    | none => rw [e1] at e; cases e
    | some o =>
      rw [e1] at e
      cases o with
      | lst l =>
        obtain ⟨a, vs, rfl, ha, h1, h2⟩ := S.lst e1 r
        cases e2 : mapO (pyH n h) l with
        | none => simp only [e2] at e; cases e
        | some qs =>
          simp only [e2, Option.some.injEq] at e; subst e
          obtain ⟨b1, b2, b3⟩ := mapO_ok (pyH_ok S n) l vs qs h2 e2
          exact ⟨.lst (SqL.of h1) b1, by simp [PyData.canLay0, b2], by simp only [PyData.depth]; omega⟩
      | _ => cases e
theorem shaped_ok {p : PyData} (h1 : p.canLay0 = true) (h2 : p.depth ≤ 64) : SeqAt.shaped p = true := by
  unfold SeqAt.shaped
  rw [h1, decide_eq_true h2] <;> rfl

/-! ### dicts -/
theorem repK_key {d : D} {κ : Key} {v : V} (h : RepK d κ) (r : Rep K ρ H d v) : v = L2.kV κ := by
  cases d with
  | int i => rw [rep_int] at r; subst r; cases (show κ = Sum.inl i from h); rfl
  | str s => rw [rep_str] at r; obtain ⟨rfl, _⟩ := r; obtain ⟨e, _⟩ := (show κ = Sum.inr (toS s) ∧ okS s from h); subst e; rfl
  | _ => exact False.elim h
theorem repK_of {d : D} {v : V} (h : keyD d = true) (r : Rep K ρ H d v) : ∃ κ : Key, RepK d κ ∧ v = L2.kV κ := by
  cases d with
  | int i => rw [rep_int] at r; subst r; exact ⟨.inl i, rfl, rfl⟩
  | str s => rw [rep_str] at r; obtain ⟨rfl, o⟩ := r; exact ⟨.inr (toS s), ⟨rfl, o⟩, rfl⟩
  | _ => cases h
theorem keq_ok {a b : D} {κ μ : Key} (h1 : RepK a κ) (h2 : RepK b μ) : keq a b = decide (κ = μ) := by
  cases a with
  | int i =>
    cases (show κ = Sum.inl i from h1)
    cases b with
    | int j => cases (show μ = Sum.inl j from h2); simp [keq]
    | str s => obtain ⟨e, _⟩ := (show μ = Sum.inr (toS s) ∧ okS s from h2); subst e; simp [keq]
    | _ => exact False.elim h2
  | str s =>
    obtain ⟨e, _⟩ := (show κ = Sum.inr (toS s) ∧ okS s from h1); subst e
    cases b with
    | int j => cases (show μ = Sum.inl j from h2); simp [keq]
    | str t =>
      obtain ⟨e, _⟩ := (show μ = Sum.inr (toS t) ∧ okS t from h2); subst e
      simp only [keq, Sum.inr.injEq]
      exact decide_eq_decide.mpr toS_eq.symm
    | _ => exact False.elim h2
  | _ => exact False.elim h1
theorem RepD.get {l : List (D × D)} {ps : List (Key × V)} (r : RepD K ρ H l ps) {k : D} {κ : Key} (hk : RepK k κ) :
    (∀ d, dget l k = some d → ∃ v, valV ps κ = some v ∧ Rep K ρ H d v) ∧ (dget l k = none → valV ps κ = none) := by
  induction r with
  | nil => exact ⟨fun d e => by simp [dget] at e, fun _ => rfl⟩
  | @cons a d μ v r s h1 h2 _ ih =>
    have e := keq_ok h1 hk
    by_cases q : μ = κ
    · rw [decide_eq_true q] at e
      refine ⟨fun x hx => ?_, fun hx => ?_⟩
      · rw [dget, e] at hx; cases hx
        exact ⟨v, valV_pos (p := (μ, v)) q, h2⟩
      · rw [dget, e] at hx; cases hx
    · rw [decide_eq_false q] at e
      have e1 : dget ((a, d) :: r) k = dget r k := by rw [dget, e]; simp
      have e2 : valV ((μ, v) :: s) κ = valV s κ := valV_neg (p := (μ, v)) q
      rw [e1, e2]
      exact ih
theorem RepD.len {l : List (D × D)} {ps : List (Key × V)} (r : RepD K ρ H l ps) : l.length = ps.length := by
  induction r with
  | nil => rfl
  | cons _ _ _ ih => simp [ih]
theorem RepD.any {l : List (D × D)} {ps : List (Key × V)} (r : RepD K ρ H l ps) {k : D} {κ : Key} (hk : RepK k κ) : (l.any fun p => keq p.1 k) = ps.any fun kv => decide (kv.1 = κ) := by
  induction r with
  | nil => rfl
  | cons h1 _ _ ih => simp only [List.any_cons, keq_ok h1 hk, ih]
theorem RepD.map {l : List (D × D)} {ps : List (Key × V)} (r : RepD K ρ H l ps) {k : D} {κ : Key} (hk : RepK k κ) {d : D} {v : V} (hv : Rep K ρ H d v) :
    RepD K ρ H (l.map fun p => if keq p.1 k = true then (p.1, d) else p) (ps.map fun kv => if kv.1 = κ then (kv.1, v) else kv) := by
  induction r with
  | nil => exact .nil
  | @cons a x μ w r s h1 h2 _ ih =>
    simp only [List.map_cons]
    have e := keq_ok h1 hk
    by_cases q : μ = κ
    · rw [decide_eq_true q] at e
      rw [if_pos e, if_pos q]
      exact .cons h1 hv ih
    · rw [decide_eq_false q] at e
      rw [if_neg (by rw [e]; decide), if_neg q]
      exact .cons h1 h2 ih
theorem RepD.app {l m : List (D × D)} {ps qs : List (Key × V)} (r : RepD K ρ H l ps) (q : RepD K ρ H m qs) : RepD K ρ H (l ++ m) (ps ++ qs) := by
  induction r with
  | nil => exact q
  | cons h1 h2 _ ih => exact .cons h1 h2 ih
theorem RepD.put {l : List (D × D)} {ps : List (Key × V)} (r : RepD K ρ H l ps) {k : D} {κ : Key} (hk : RepK k κ) {d : D} {v : V} (hv : Rep K ρ H d v) : RepD K ρ H (dput l k d) (putK ps κ v) := by
  unfold dput putK
  rw [r.any hk]
  by_cases z : (ps.any fun kv => decide (kv.1 = κ)) = true
  · rw [if_pos z, if_pos z]; exact r.map hk hv
  · rw [if_neg z, if_neg z]; exact r.app (.cons hk hv .nil)
theorem RepD.drop {l : List (D × D)} {ps : List (Key × V)} (r : RepD K ρ H l ps) {k : D} {κ : Key} (hk : RepK k κ) : RepD K ρ H (ddel l k) (dropK ps κ) := by
  unfold ddel dropK
  induction r with
  | nil => exact .nil
  | @cons a x μ w r s h1 h2 _ ih =>
    have e := keq_ok h1 hk
    by_cases q : μ = κ
    · rw [decide_eq_true q] at e
      rw [List.filter_cons_of_neg (by simp [e]), List.filter_cons_of_neg (by simp [q])]
      exact ih
    · rw [decide_eq_false q] at e
      rw [List.filter_cons_of_pos (by simp [e]), List.filter_cons_of_pos (by simp [q])]
      exact .cons h1 h2 ih
theorem RepF.get {N : Str → Prop} {l : List (Nm × D)} {ps : List (Str × V)} (r : RepF K ρ H N l ps) (f : Nm) :
    (∀ d, fget l f = some d → N (toS f) ∧ ∃ v, ps.lookup (toS f) = some v ∧ Rep K ρ H d v) ∧ (fget l f = none → ps.lookup (toS f) = none) := by
  induction r with
  | nil => exact ⟨fun d e => by simp [fget] at e, fun _ => rfl⟩
  | @cons g d v r s h0 h1 _ ih =>
    by_cases q : g = f
    · subst q
      refine ⟨fun x hx => ?_, fun hx => ?_⟩
      · simp only [fget, if_true, Option.some.injEq] at hx
        subst hx
        exact ⟨h0, v, by simp [List.lookup_cons], h1⟩
      · simp [fget] at hx
    · have e1 : fget ((g, d) :: r) f = fget r f := by simp [fget, q]
      have e2 : List.lookup (toS f) ((toS g, v) :: s) = List.lookup (toS f) s := by
        rw [List.lookup_cons]
        have : (toS f == toS g) = false := by
          rw [beq_eq_false_iff_ne]
          intro z; exact q (toS_inj z).symm
        rw [this]
      rw [e1, e2]
      exact ih
theorem RepF.put {N : Str → Prop} {l : List (Nm × D)} {ps : List (Str × V)} (r : RepF K ρ H N l ps) {f : Nm} {d : D} {v : V} (hN : N (toS f)) (hv : Rep K ρ H d v) : RepF K ρ H N (fput l f d) (putF (toS f) v ps) := by
  induction r with
  | nil => exact .cons hN hv .nil
  | @cons g x w r s h0 h1 h2 ih =>
    by_cases q : g = f
    · subst q
      simp only [fput, if_true]
      show RepF K ρ H N ((g, d) :: r) (if toS g = toS g then (toS g, v) :: s else (toS g, w) :: putF (toS g) v s)
      rw [if_pos rfl]
      exact .cons h0 hv h2
    · have e1 : fput ((g, x) :: r) f d = (g, x) :: fput r f d := by simp [fput, q]
      rw [e1]
      have e2 : putF (toS f) v ((toS g, w) :: s) = (toS g, w) :: putF (toS f) v s := by
        rw [putF, if_neg fun z => q (toS_inj z)]
      rw [e2]
      exact .cons h0 h1 ih
theorem RepF.len {N : Str → Prop} {l : List (Nm × D)} {ps : List (Str × V)} (r : RepF K ρ H N l ps) : l.length = ps.length := by
  induction r with
  | nil => rfl
  | cons _ _ _ ih => simp [ih]
end

/-! ### operators -/
section
variable {X : Cx} {G : Gt} {W : WX} {σ : L2.St} {ρ : List Addr} {H : Hp} {h : Hh}
/-- what an operator's result is asked -/
abbrev RD (X : Cx) (G : Gt) (W : WX) (σ : L2.St) (ρ : List Addr) (H : Hp) (Q : VK) (r : Res D) : Prop := Out X.K G W σ ρ H (fun ρ' H' _ d => ∀ v, Rep X.K ρ' H' d v → Q v H') r
theorem RD.val {Q : VK} {d : D} {v : V} (S : Sim X.K G ρ H h) (o : RD X G W σ ρ H Q (.ok d h)) (r : Rep X.K ρ H d v) : Q v H := Out.now S o v r
/-- a new list -/
theorem RD.alloc {Q : VK} {l : List D} {vs : List V} (S : Sim X.K G ρ H h) (o : RD X G W σ ρ H Q (alloc h (.lst l))) (r : Reps X.K ρ H l vs) : ∀ p, H p = none → Q (.ref p) (upd H p (.lst vs)) := fun p hp => by
  have e := ext_new (ρ := ρ) (o := HO.lst vs) hp
  refine o (ρ ++ [p]) _ e (S.new hp ⟨vs, upd_same, Reps.ext e l vs r⟩) _ (rep_ref.mpr ⟨p, rfl, ?_⟩)
  rw [← S.len]; simp
/-- a new tuple -/
theorem RD.tup {Q : VK} {l : List D} {vs : List V} (S : Sim X.K G ρ H h) (o : RD X G W σ ρ H Q (.ok (.tup l) h)) (r : Reps X.K ρ H l vs) : ∀ p, H p = none → Q (.ref p) (upd H p (.tup vs)) := fun p hp => by
  have e := ext_tmp (ρ := ρ) (o := HO.tup vs) hp (S.fresh hp)
  exact o ρ _ e (S.tmp hp) _ (rep_tup.mpr ⟨p, vs, rfl, SqT.of upd_same, Reps.ext e l vs r⟩)
/-- f at these values, whatever the names -/
def Any2 (X : Cx) (f : Value → Value → Sem Value) : R2 := fun x y H Q => ∀ (pins : List (Addr × Obj)) (s : Shared) (σ : L2.St) (v u : Value), Inv X pins σ H s → RelV x v → RelV y u → wpAny (model X.prog X.w) X.A (f v u) (EP X pins σ Q) X.xe s
theorem any2 {f : Value → Value → Sem Value} : OpR X f (Any2 X f) := fun pins s σ H x y v u Q I rx ry k => k pins s σ v u I rx ry
theorem Any2.of {f : Value → Value → Sem Value} {r : R2} {x y : V} {Q : VK} (o : OpR X f r) (k : r x y H Q) : Any2 X f x y H Q := fun pins s σ v u I rx ry => o pins s σ H x y v u Q I rx ry k

theorem small_ok {i : Int} (h : small i = true) : -(2 ^ 64) < i ∧ i < 2 ^ 64 := by
  simpa [small] using h
theorem okS_app {a b : Nm} (ha : okS a) (hb : okS b) (hl : a.length + b.length ≤ SZ) : okS (a ++ b) :=
  ⟨by rw [List.length_append, ← SZ_eq]; exact hl, fun c hc => (List.mem_append.mp hc).elim (ha.2 c) (hb.2 c)⟩
/-! ### repeated -/
def repN {j : Int} (_ : 1 ≤ j) : Nat := j.toNat
theorem repL_len {α : Type} (l : List α) (j : Int) : (repL l j).length = l.length * j.toNat := by
  unfold repL
  rw [List.length_flatten]
  simp [Nat.mul_comm]
theorem repL_mem {α : Type} {l : List α} {j : Int} {c : α} (h : c ∈ repL l j) : c ∈ l := by
  unfold repL at h
  obtain ⟨m, hm, hc⟩ := List.mem_flatten.mp h
  rw [List.eq_of_mem_replicate hm] at hc
  exact hc
theorem reps_rep {l : List D} {vs : List V} (r : Reps X.K ρ H l vs) (j : Int) : Reps X.K ρ H (repL l j) (List.replicate j.toNat vs).flatten := by
  unfold repL
  induction j.toNat with
  | zero => simpa using Reps.nil
  | succ n ih =>
    rw [List.replicate_succ, List.replicate_succ, List.flatten_cons, List.flatten_cons]
    exact r.app ih
theorem rep_arr (a : Array Nat) : ∀ (n : Nat) (acc : Array Nat), ((List.replicate n a).foldl (fun x y => x ++ y) acc).toList = acc.toList ++ (List.replicate n a.toList).flatten
  | 0, acc => by simp
  | n + 1, acc => by
    rw [List.replicate_succ, List.foldl_cons, rep_arr a n]
    simp [List.replicate_succ]
theorem toS_rep {s : Nm} {j : Int} (h : 1 ≤ j) : Txt.mul (toS s) j = toS (repL s j) := by
  have inj : ∀ {a b : Str}, a.cps.toList = b.cps.toList → a = b := by
    intro a b h
    cases a; cases b
    simpa using h
  apply inj
  rw [toS_cps]
  unfold Txt.mul repL
  rw [if_neg (by omega)]
  split
  · rename_i e
    rw [toS_cps]
    simp only [Bool.or_eq_true, beq_iff_eq] at e
    rcases e with e | e
    · subst e
      simp
    · rw [toS_len] at e
      have : s = [] := List.eq_nil_of_length_eq_zero e
      subst this
      simp
  · show ((List.replicate j.toNat (toS s).cps).foldl (fun x y => x ++ y) #[]).toList = _
    rw [rep_arr]
    simp [toS]
theorem mulOk_of {a : Str} {j : Int} (h1 : a.length ≤ 1000) (h2 : 1 ≤ j) (h3 : j ≤ 1000) : MulOk a j := by
  refine ⟨?_, fun _ _ => ?_, fun _ _ => ?_⟩
  · rw [decide_eq_false (by omega), decide_eq_false (by omega)] <;> rfl
  · have : (1000 : Int) ≤ (2 ^ 63 - 1) / j := (Int.le_ediv_iff_mul_le (by omega)).mpr (by omega)
    omega
  · unfold Builtin.Str.tooLong
    have : a.length * j.toNat ≤ 1000 * 1000 := Nat.mul_le_mul h1 (by omega)
    exact decide_eq_false (by have := sizeLine_eq; omega)
theorem op_muls : OpR X (binaryOp .Mult) (fun x y H Q => ∃ a n, x = .str a ∧ y = .int n ∧ MulOk a n ∧ Q (.str (Txt.mul a n)) H) := by
  intro pins s σ H x y v u Q I rx ry h
  obtain ⟨a, n, rfl, rfl, hm, q⟩ := h
  obtain ⟨t, rfl⟩ := rx
  obtain ⟨t2, rfl⟩ := ry
  exact PySem.SB.mul hm fun t' k => ⟨.str (Txt.mul a n), H, I.tok _, ⟨t', rfl⟩, q⟩
theorem binop_ok {op : Operator} {x y : D} {vx vy : V} {Q : VK} (S : Sim X.K G ρ H h) (rx : Rep X.K ρ H x vx) (ry : Rep X.K ρ H y vy) (o : RD X G W σ ρ H Q (binop op x y h)) : Any2 X (binaryOp op) vx vy H Q := by
  unfold binop at o
  split at o
  · rw [rep_int] at rx ry; subst rx ry
    exact .of op_add ⟨_, _, rfl, rfl, RD.val S o (rep_int.mpr rfl)⟩
  · rw [rep_str] at rx ry
    obtain ⟨rfl, ox⟩ := rx
    obtain ⟨rfl, oy⟩ := ry
    split at o
    · rename_i hl
      refine .of op_add_str ⟨_, _, rfl, rfl, by rw [toS_len, toS_len, ← SZ_eq]; exact hl, ?_⟩
      rw [toS_app]
      exact RD.val S o (rep_str.mpr ⟨rfl, okS_app ox oy hl⟩)
    · exact False.elim o
  · rename_i l m
    split at o
    · rename_i hl
      obtain ⟨a, vs, rfl, h1, h2⟩ := rep_tup.mp rx
      obtain ⟨b, ws, rfl, h3, h4⟩ := rep_tup.mp ry
      refine .of op_catA ⟨a, b, vs, ws, rfl, rfl, h1, h3, by rw [← h2.length, ← h4.length, ← SZ_eq]; exact hl, fun e => ?_, fun _ e => ?_, fun _ _ => RD.tup S o (h2.app h4)⟩
      · refine RD.val S o (rep_tup.mpr ⟨b, vs ++ ws, rfl, ?_, h2.app h4⟩)
        rw [e]; exact h3
      · refine RD.val S o (rep_tup.mpr ⟨a, vs ++ ws, rfl, ?_, h2.app h4⟩)
        rw [e, List.append_nil]; exact h1
    · exact False.elim o
  · split at o
    · rename_i l m xs ys e1 e2
      split at o
      · rename_i hl
        obtain ⟨a, vs, rfl, ha, h1, h2⟩ := S.lst e1 rx
        obtain ⟨b, ws, rfl, hb, h3, h4⟩ := S.lst e2 ry
        exact .of op_cat ⟨a, b, vs, ws, rfl, rfl, h1, h3, by rw [← h2.length, ← h4.length, ← SZ_eq]; exact hl, RD.alloc S o (h2.app h4)⟩
      · exact False.elim o
    · exact False.elim o
  · rw [rep_int] at rx ry; subst rx ry
    exact .of op_sub ⟨_, _, rfl, rfl, RD.val S o (rep_int.mpr rfl)⟩
  · rw [rep_int] at rx ry; subst rx ry
    split at o
    · rename_i hl
      rw [Bool.or_eq_true] at hl
      exact .of op_mul ⟨_, _, rfl, rfl, hl.elim (fun z => .inl (small_ok z)) (fun z => .inr (small_ok z)), RD.val S o (rep_int.mpr rfl)⟩
    · exact False.elim o
  · rw [rep_str] at rx
    rw [rep_int] at ry
    obtain ⟨rfl, ox⟩ := rx
    subst ry
    split at o
    · rename_i hl
      refine .of op_muls ⟨_, _, rfl, rfl, mulOk_of (by rw [toS_len]; exact hl.1) hl.2.1 hl.2.2, ?_⟩
      rw [toS_rep hl.2.1]
      refine RD.val S o (rep_str.mpr ⟨rfl, ?_, ?_⟩)
      · rw [← SZ_eq, repL_len]
        have : repN hl.2.1 ≤ 1000 := by unfold repN; omega
        have := Nat.mul_le_mul hl.1 this
        unfold repN at this
        unfold SZ
        omega
      · intro c hc
        exact ox.2 c (repL_mem hc)
    · exact False.elim o
  · rw [rep_int] at ry
    subst ry
    split at o
    · rename_i xs e1
      split at o
      · rename_i hl
        obtain ⟨a, vs, rfl, ha, h1, h2⟩ := S.lst e1 rx
        exact .of op_rep ⟨a, _, vs, rfl, rfl, h1, hl.2.1, hl.2.2, by rw [← h2.length, ← SZ_eq]; exact hl.1, RD.alloc S o (reps_rep h2 _)⟩
      · exact False.elim o
    · exact False.elim o
  · rw [rep_int] at rx ry; subst rx ry
    split at o
    · rename_i hl
      exact .of op_fdivN ⟨_, _, rfl, rfl, hl, RD.val S o (rep_int.mpr rfl)⟩
    · exact False.elim o
  · rw [rep_int] at rx ry; subst rx ry
    split at o
    · rename_i hl
      exact .of op_modN ⟨_, _, rfl, rfl, hl, RD.val S o (rep_int.mpr rfl)⟩
    · exact False.elim o
  · rw [rep_int] at rx ry; subst rx ry
    split at o
    · rename_i hl
      exact .of op_pow ⟨_, _, rfl, rfl, hl, RD.val S o (rep_int.mpr rfl)⟩
    · exact False.elim o
  · exact False.elim o

/-! ### comparisons -/
theorem flat_ok {x : D} {v : V} (h : lstD x = true) (r : Rep X.K ρ H x v) : flatV v = true := by
  cases x with
  | non => rw [rep_non] at r; subst r; rfl
  | bl b => rw [rep_bl] at r; subst r; rfl
  | int i => rw [rep_int] at r; subst r; rfl
  | str s => rw [rep_str] at r; obtain ⟨rfl, _⟩ := r; rfl
  | _ => cases h
theorem flats_ok : ∀ {l : List D} {vs : List V}, l.all lstD = true → Reps X.K ρ H l vs → vs.all flatV = true
  | [], vs, _, r => by rw [Reps] at r; subst r; rfl
  | d :: l, vs, h, r => by
    rw [Reps] at r
    obtain ⟨v, ws, rfl, r1, r2⟩ := r
    rw [List.all_cons, Bool.and_eq_true] at h
    rw [List.all_cons, flat_ok h.1 r1, flats_ok h.2 r2] <;> rfl
theorem eqF_ok {x y : D} {v u : V} (rx : Rep X.K ρ H x v) (ry : Rep X.K ρ H y u) (hx : lstD x = true) (hy : lstD y = true) : eqV v u = eqF x y := by
  cases x with
  | non =>
    rw [rep_non] at rx; subst rx
    cases y with
    | non => rw [rep_non] at ry; subst ry; rfl
    | bl b => rw [rep_bl] at ry; subst ry; rfl
    | int i => rw [rep_int] at ry; subst ry; rfl
    | str s => rw [rep_str] at ry; obtain ⟨rfl, _⟩ := ry; rfl
    | _ => cases hy
  | bl a =>
    rw [rep_bl] at rx; subst rx
    cases y with
    | non => rw [rep_non] at ry; subst ry; rfl
    | bl b => rw [rep_bl] at ry; subst ry; rfl
    | int i => rw [rep_int] at ry; subst ry; rfl
    | str s => rw [rep_str] at ry; obtain ⟨rfl, _⟩ := ry; rfl
    | _ => cases hy
  | int a =>
    rw [rep_int] at rx; subst rx
    cases y with
    | non => rw [rep_non] at ry; subst ry; rfl
    | bl b => rw [rep_bl] at ry; subst ry; rfl
    | int i => rw [rep_int] at ry; subst ry; rfl
    | str s => rw [rep_str] at ry; obtain ⟨rfl, _⟩ := ry; rfl
    | _ => cases hy
  | str a =>
    rw [rep_str] at rx; obtain ⟨rfl, _⟩ := rx
    cases y with
    | non => rw [rep_non] at ry; subst ry; rfl
    | bl b => rw [rep_bl] at ry; subst ry; rfl
    | int i => rw [rep_int] at ry; subst ry; rfl
    | str s =>
      rw [rep_str] at ry; obtain ⟨rfl, _⟩ := ry
      show (toS a == toS s) = (a == s)
      rw [Bool.eq_iff_iff, beq_iff_eq, beq_iff_eq]
      exact toS_eq
    | _ => cases hy
  | _ => cases hx
theorem inD_ok {x : D} {v : V} (rx : Rep X.K ρ H x v) (hx : lstD x = true) : ∀ {l : List D} {vs : List V}, l.all lstD = true → Reps X.K ρ H l vs → inV v vs = inD x l
  | [], vs, _, r => by rw [Reps] at r; subst r; rfl
  | d :: l, vs, h, r => by
    rw [Reps] at r
    obtain ⟨u, ws, rfl, r1, r2⟩ := r
    rw [List.all_cons, Bool.and_eq_true] at h
    have ih := inD_ok rx hx h.2 r2
    unfold inV inD at ih ⊢
    rw [List.any_cons, List.any_cons, ih, eqF_ok r1 rx h.1 hx]
theorem eqD_ok {x y : D} {vx vy : V} {b : Bool} (S : Sim X.K G ρ H h) (rx : Rep X.K ρ H x vx) (ry : Rep X.K ρ H y vy) (e : eqD h x y = some b) : ∃ d p, Dp X.K H vx d ∧ Dp X.K H vy p ∧ SeqAt.shaped d = true ∧ SeqAt.shaped p = true ∧ PyData.eqv d p = b := by
  unfold eqD at e
  cases e1 : pyH 64 h x with
  | none => rw [e1] at e; cases e
  | some p =>
    rw [e1] at e
    cases e2 : pyH 64 h y with
    | none => simp only [e2] at e; cases e
    | some q =>
      simp only [e2, Option.some.injEq] at e
      obtain ⟨a1, a2, a3⟩ := pyH_ok S 64 x vx p rx e1
      obtain ⟨b1, b2, b3⟩ := pyH_ok S 64 y vy q ry e2
      exact ⟨p, q, a1, b1, shaped_ok a2 a3, shaped_ok b2 b3, e⟩
theorem isIn_ok {x y : D} {vx vy : V} {b : Bool} {Q : VK} {neg : Bool} (hu : X.A.units + 1 < cLine) (S : Sim X.K G ρ H h) (rx : Rep X.K ρ H x vx) (ry : Rep X.K ρ H y vy) (e : isIn h x y = some b) (q : Q (.bl (if neg then !b else b)) H) :
    Any2 X (compareOp (if neg then .NotIn else .In)) vx vy H Q := by
  have seq : ∀ {p : Addr} {l : List D} {vs : List V}, vy = .ref p → (SqL X.K H p vs ∨ SqT X.K H p vs) → Reps X.K ρ H l vs → (if (lstD x && l.all lstD) = true then some (inD x l) else none) = some b → Any2 X (compareOp (if neg then .NotIn else .In)) vx vy H Q := by
    intro p l vs ev hs hr he
    split at he
    · rename_i hc
      rw [Bool.and_eq_true] at hc
      cases he
      subst ev
      have k : rIn X.K neg vx (.ref p) H Q := ⟨p, vs, rfl, hs, flat_ok hc.1 rx, flats_ok hc.2 hr, by rw [inD_ok rx hc.1 hc.2 hr]; exact q⟩
      cases neg with
      | true => exact .of op_notIn_seq k
      | false => exact .of op_in_seq k
    · cases he
  unfold isIn at e
  split at e
  · split at e
    · rename_i bs _ c
      cases e
      rw [rep_str] at rx ry
      obtain ⟨rfl, _⟩ := rx
      obtain ⟨rfl, _⟩ := ry
      cases neg with
      | true => exact .of op_notIn_sign ⟨c, toS bs, rfl, rfl, by rw [toS_cps]; exact q⟩
      | false => exact .of op_in_sign ⟨c, toS bs, rfl, rfl, by rw [toS_cps]; exact q⟩
    · cases e
  · split at e
    · rename_i n kvs e1
      split at e
      · rename_i hk
        cases e
        obtain ⟨a, ps, rfl, ha, h1, h2⟩ := S.dct e1 ry
        obtain ⟨κ, hκ, rfl⟩ := repK_of hk rx
        have g : (dget kvs x).isSome = (valV ps κ).isSome := by
          cases e3 : dget kvs x with
          | none => rw [(h2.get hκ).2 e3] <;> rfl
          | some d => obtain ⟨v, e4, _⟩ := (h2.get hκ).1 d e3; rw [e4] <;> rfl
        rw [g] at q
        intro pins s σ v u I r1 r2
        obtain rfl : u = Value.ref a := r2
        cases neg with
        | true => exact d_notIn hu I (DGet.k h1) r1 fun s3 I3 => ⟨.bl (!(valV ps κ).isSome), H, I3, rfl, q⟩
        | false => exact d_in hu I (DGet.k h1) r1 fun s3 I3 => ⟨.bl (valV ps κ).isSome, H, I3, rfl, q⟩
      · cases e
    · rename_i n l e1
      obtain ⟨a, vs, rfl, ha, h1, h2⟩ := S.lst e1 ry
      exact seq rfl (.inl (SqL.of h1)) h2 e
    · cases e
  · obtain ⟨a, vs, rfl, h1, h2⟩ := rep_tup.mp ry
    exact seq rfl (.inr h1) h2 e
  · obtain ⟨a, vs, rfl, h1, h2⟩ := rep_rol.mp ry
    exact seq rfl (.inl h1.sq) h2 e
  · cases e
theorem isNon_ok {x : D} {v : V} (rx : Rep X.K ρ H x v) : decide (v = V.non) = isNon x := by
  cases x with
  | non => rw [rep_non] at rx; subst rx; rfl
  | bl _ => rw [rep_bl] at rx; subst rx; rfl
  | int _ => rw [rep_int] at rx; subst rx; rfl
  | str _ => rw [rep_str] at rx; obtain ⟨rfl, _⟩ := rx; rfl
  | tup _ => obtain ⟨a, vs, rfl, _⟩ := rep_tup.mp rx; rfl
  | rol _ => obtain ⟨a, vs, rfl, _⟩ := rep_rol.mp rx; rfl
  | ref _ => obtain ⟨a, rfl, _⟩ := rep_ref.mp rx; rfl
theorem cmpD_ok {op : CmpOp} {x y : D} {vx vy : V} {b : Bool} {Q : VK} (hu : X.A.units + 64 < cLine) (S : Sim X.K G ρ H h) (rx : Rep X.K ρ H x vx) (ry : Rep X.K ρ H y vy) (e : cmpD op x y h = some b) (q : Q (.bl b) H) : Any2 X (compareOp op) vx vy H Q := by
  cases op with
  | Eq =>
    obtain ⟨d, p, h1, h2, h3, h4, h5⟩ := eqD_ok S rx ry e
    exact .of (op_eqD hu) ⟨d, p, h1, h2, h3, h4, by rw [h5]; exact q⟩
  | NotEq =>
    unfold cmpD at e
    obtain ⟨c, e1, e2⟩ := Option.map_eq_some_iff.mp e
    obtain ⟨d, p, h1, h2, h3, h4, h5⟩ := eqD_ok S rx ry e1
    exact .of (op_neD hu) ⟨d, p, h1, h2, h3, h4, by rw [h5, e2]; exact q⟩
  | Lt =>
    unfold cmpD at e
    simp only at e
    split at e
    · cases e; rw [rep_int] at rx ry; subst rx ry
      exact .of op_lt ⟨_, _, rfl, rfl, q⟩
    · cases e; rw [rep_str] at rx ry; obtain ⟨rfl, _⟩ := rx; obtain ⟨rfl, _⟩ := ry
      exact .of op_lt_str ⟨_, _, rfl, rfl, by rw [toS_cps, toS_cps]; exact q⟩
    · cases e
  | LtE =>
    unfold cmpD at e
    simp only at e
    split at e
    · cases e; rw [rep_int] at rx ry; subst rx ry
      exact .of op_le ⟨_, _, rfl, rfl, q⟩
    · cases e; rw [rep_str] at rx ry; obtain ⟨rfl, _⟩ := rx; obtain ⟨rfl, _⟩ := ry
      exact .of op_le_str ⟨_, _, rfl, rfl, by rw [toS_cps, toS_cps]; exact q⟩
    · cases e
  | Gt =>
    unfold cmpD at e
    simp only at e
    split at e
    · cases e; rw [rep_int] at rx ry; subst rx ry
      exact .of op_gt ⟨_, _, rfl, rfl, q⟩
    · cases e; rw [rep_str] at rx ry; obtain ⟨rfl, _⟩ := rx; obtain ⟨rfl, _⟩ := ry
      exact .of op_gt_str ⟨_, _, rfl, rfl, by rw [toS_cps, toS_cps]; exact q⟩
    · cases e
  | GtE =>
    unfold cmpD at e
    simp only at e
    split at e
    · cases e; rw [rep_int] at rx ry; subst rx ry
      exact .of op_ge ⟨_, _, rfl, rfl, q⟩
    · cases e
  | Is =>
    unfold cmpD at e
    simp only at e
    split at e
    · cases e
      rw [rep_non] at ry; subst ry
      refine .of op_isN ⟨rfl, ?_⟩
      rw [isNon_ok rx]; exact q
    · cases e
  | IsNot =>
    unfold cmpD at e
    simp only at e
    split at e
    · cases e
      rw [rep_non] at ry; subst ry
      refine .of op_notN ⟨rfl, ?_⟩
      rw [isNon_ok rx]; exact q
    · cases e
  | In => exact isIn_ok (neg := false) (by omega) S rx ry e q
  | NotIn =>
    unfold cmpD at e
    obtain ⟨c, e1, e2⟩ := Option.map_eq_some_iff.mp e
    exact isIn_ok (neg := true) (by omega) S rx ry e1 (by rw [← e2] at q; exact q)
theorem cmpop_ok {op : CmpOp} {x y : D} {vx vy : V} {Q : VK} (hu : X.A.units + 64 < cLine) (S : Sim X.K G ρ H h) (rx : Rep X.K ρ H x vx) (ry : Rep X.K ρ H y vy) (o : RD X G W σ ρ H Q (cmpop op x y h)) : Any2 X (compareOp op) vx vy H Q := by
  unfold cmpop at o
  cases e : cmpD op x y h with
  | none => rw [e] at o; exact False.elim o
  | some b =>
    rw [e] at o
    exact cmpD_ok hu S rx ry e (RD.val S o (rep_bl.mpr rfl))
/-! ### truth -/
theorem truth_ok {x : D} {v : V} {b : Bool} (S : Sim X.K G ρ H h) (r : Rep X.K ρ H x v) (e : truth h x = some b) : TruV X.K v H b := by
  unfold truth at e
  split at e
  · cases e; rw [rep_non] at r; subst r; rfl
  · cases e; rw [rep_bl] at r; subst r; rfl
  · cases e; rw [rep_int] at r; subst r; rfl
  · cases e; rw [rep_str] at r; obtain ⟨rfl, o⟩ := r
    refine ⟨by rw [toS_len]; exact o.1, ?_⟩
    rw [toS_len]
    rename_i s
    cases s with
    | nil => rfl
    | cons a r =>
      symm
      show _ = true
      rw [bne_iff_ne]
      simp only [List.length_cons]
      omega
  · cases e; obtain ⟨a, vs, rfl, h1, h2⟩ := rep_tup.mp r
    exact .inr (.inl ⟨vs, h1, by rw [h2.isEmpty]⟩)
  · cases e; obtain ⟨a, vs, rfl, h1, h2⟩ := rep_rol.mp r
    exact .inl ⟨vs, h1.sq, by rw [h2.isEmpty]⟩
  · split at e
    · rename_i l e1
      cases e
      obtain ⟨a, vs, rfl, ha, h1, h2⟩ := S.lst e1 r
      exact .inl ⟨vs, SqL.of h1, by rw [h2.isEmpty]⟩
    · rename_i l e1
      cases e
      obtain ⟨a, vs, rfl, ha, h1, h2⟩ := S.dct e1 r
      refine .inr (.inr ⟨vs, h1, ?_⟩)
      cases h2 <;> rfl
    · cases e
end
end Z

/-! ZD: subscripts, stores, attributes, methods of lists and dicts, built-in functions. -/
namespace Z
open PySem PySem.Spec PyProof.Rows L2
/-! ### sorting -/
theorem insB_perm {α : Type} {le : α → α → Bool} (x : α) : ∀ l : List α, (insB le x l).Perm (x :: l)
  | [] => List.Perm.refl _
  | y :: r => by
    unfold insB
    split
    · exact List.Perm.refl _
    · exact ((insB_perm x r).cons y).trans (List.Perm.swap x y r)
theorem sortB_perm {α : Type} {le : α → α → Bool} : ∀ l : List α, (sortB le l).Perm l
  | [] => List.Perm.refl _
  | x :: r => (insB_perm x _).trans ((sortB_perm r).cons x)
theorem insB_pw {α : Type} {le : α → α → Bool} (tot : ∀ a b, le a b = true ∨ le b a = true) (tr : ∀ a b c, le a b = true → le b c = true → le a c = true) (x : α) : ∀ l : List α, l.Pairwise (fun a b => le a b = true) → (insB le x l).Pairwise (fun a b => le a b = true)
  | [], _ => by unfold insB; simp
  | y :: r, h => by
    obtain ⟨h1, h2⟩ := List.pairwise_cons.mp h
    unfold insB
    split
    · rename_i e
      refine List.pairwise_cons.mpr ⟨fun z hz => ?_, h⟩
      rcases List.mem_cons.mp hz with q | q
      · rw [q]; exact e
      · exact tr _ _ _ e (h1 z q)
    · rename_i e
      refine List.pairwise_cons.mpr ⟨fun z hz => ?_, insB_pw tot tr x r h2⟩
      rcases List.mem_cons.mp ((insB_perm x r).mem_iff.mp hz) with q | q
      · rw [q]
        rcases tot y x with t | t
        · exact t
        · exact absurd t e
      · exact h1 z q
theorem sortB_pw {α : Type} {le : α → α → Bool} (tot : ∀ a b, le a b = true ∨ le b a = true) (tr : ∀ a b c, le a b = true → le b c = true → le a c = true) : ∀ l : List α, (sortB le l).Pairwise (fun a b => le a b = true)
  | [] => List.Pairwise.nil
  | x :: r => insB_pw tot tr x _ (sortB_pw tot tr r)
theorem perm_uniq {α : Type} {R : α → α → Prop} (as : ∀ a b, R a b → R b a → a = b) : ∀ {l m : List α}, l.Pairwise R → m.Pairwise R → l.Perm m → l = m
  | [], m, _, _, h => (List.Perm.eq_nil h.symm).symm
  | x :: l, [], _, _, h => absurd h.length_eq (by simp)
  | x :: l, y :: m, hl, hm, h => by
    obtain ⟨l1, l2⟩ := List.pairwise_cons.mp hl
    obtain ⟨m1, m2⟩ := List.pairwise_cons.mp hm
    have e : x = y := by
      rcases List.mem_cons.mp (h.mem_iff.mp (List.mem_cons_self (a := x) (l := l))) with e | hx
      · exact e
      · rcases List.mem_cons.mp (h.mem_iff.mpr (List.mem_cons_self (a := y) (l := m))) with e | hy
        · exact e.symm
        · exact as _ _ (l1 y hy) (m1 x hx)
    subst e
    rw [perm_uniq as l2 m2 (h.cons_inv)]
theorem leI_iff {a b : Int} : leI a b = true ↔ a ≤ b := by unfold leI; simp
theorem sortI_uniq {l m : List Int} (h : m.Perm l) (p : m.Pairwise (· ≤ ·)) : m = sortB leI l := by
  refine perm_uniq (R := fun a b : Int => a ≤ b) (fun a b h1 h2 => Int.le_antisymm h1 h2) p ?_ (h.trans (sortB_perm l).symm)
  exact (sortB_pw (fun a b => by rw [leI_iff, leI_iff]; omega) (fun a b c => by rw [leI_iff, leI_iff, leI_iff]; omega) l).imp fun {a b} q => leI_iff.mp q
theorem ltL_ord : ∀ a b : List Int, PyProof.Rows.lexLt PyProof.Rows.itemOrd (a.map Sum.inl) (b.map Sum.inl) = ltL a b
  | [], [] => rfl
  | [], _ :: _ => rfl
  | _ :: _, [] => rfl
  | x :: r, y :: t => by
    show (decide (x < y) || (!decide (y < x) && PyProof.Rows.lexLt PyProof.Rows.itemOrd (r.map Sum.inl) (t.map Sum.inl))) = (decide (x < y) || (decide (x = y) && ltL r t))
    rw [ltL_ord r t]
    by_cases h1 : x < y
    · simp [h1]
    · by_cases h2 : x = y
      · subst h2; simp
      · have h3 : y < x := by omega
        simp [h1, h2, h3]
theorem leL_iff {a b : List Int} : leL a b = true ↔ (PyProof.Rows.listOrd PyProof.Rows.itemOrd).blt (b.map Sum.inl) (a.map Sum.inl) = false := by
  unfold leL
  rw [show (PyProof.Rows.listOrd PyProof.Rows.itemOrd).blt (b.map Sum.inl) (a.map Sum.inl) = ltL b a from ltL_ord b a]
  cases ltL b a <;> simp
theorem map_inl_inj {a b : List Int} (h : (a.map Sum.inl : List (Int ⊕ List Nat)) = b.map Sum.inl) : a = b := by
  induction a generalizing b with
  | nil => cases b with
    | nil => rfl
    | cons y b => cases h
  | cons x a ih => cases b with
    | nil => cases h
    | cons y b =>
      obtain ⟨h1, h2⟩ := List.cons.inj h
      rw [Sum.inl.inj h1, ih h2]
theorem leL_total (a b : List Int) : leL a b = true ∨ leL b a = true := by
  rw [leL_iff, leL_iff]
  cases h : (PyProof.Rows.listOrd PyProof.Rows.itemOrd).blt (b.map Sum.inl) (a.map Sum.inl) with
  | false => exact .inl rfl
  | true =>
    refine .inr ?_
    cases h2 : (PyProof.Rows.listOrd PyProof.Rows.itemOrd).blt (a.map Sum.inl) (b.map Sum.inl) with
    | false => rfl
    | true =>
      have := (PyProof.Rows.listOrd PyProof.Rows.itemOrd).trans _ _ _ h h2
      rw [(PyProof.Rows.listOrd PyProof.Rows.itemOrd).irrefl] at this
      cases this
theorem leL_trans (a b c : List Int) (h1 : leL a b = true) (h2 : leL b c = true) : leL a c = true := by
  rw [leL_iff] at h1 h2 ⊢
  cases h : (PyProof.Rows.listOrd PyProof.Rows.itemOrd).blt (c.map Sum.inl) (a.map Sum.inl) with
  | false => rfl
  | true =>
    rcases (PyProof.Rows.listOrd PyProof.Rows.itemOrd).negTrans _ (b.map Sum.inl) _ h with z | z
    · rw [h2] at z; cases z
    · rw [h1] at z; cases z
theorem sortL_uniq {l m : List (List Int)} (h : m.Perm l) (p : m.Pairwise (fun a b => leL a b = true)) : m = sortB leL l := by
  refine perm_uniq (R := fun a b : List Int => leL a b = true) (fun a b h1 h2 => ?_) p (sortB_pw leL_total leL_trans l) (h.trans (sortB_perm l).symm)
  rw [leL_iff] at h1 h2
  exact map_inl_inj ((PyProof.Rows.listOrd PyProof.Rows.itemOrd).total _ _ h2 h1)
theorem insU_mem {x k : Int} : ∀ {l : List Int}, k ∈ insU x l ↔ k = x ∨ k ∈ l
  | [] => by unfold insU; simp
  | y :: r => by
    unfold insU
    split
    · simp
    · split
      · rename_i e
        subst e
        simp
      · simp [insU_mem (l := r)]
        constructor
        · rintro (h | h | h) <;> simp [h]
        · rintro (h | h | h) <;> simp [h]
theorem sortU_mem {k : Int} : ∀ {l : List Int}, k ∈ sortU l ↔ k ∈ l
  | [] => by unfold sortU; simp
  | x :: r => by
    unfold sortU
    rw [insU_mem, sortU_mem (l := r)]
    simp
theorem insU_pw {x : Int} : ∀ {l : List Int}, l.Pairwise (· < ·) → (insU x l).Pairwise (· < ·)
  | [], _ => by unfold insU; simp
  | y :: r, h => by
    obtain ⟨h1, h2⟩ := List.pairwise_cons.mp h
    unfold insU
    split
    · rename_i e
      refine List.pairwise_cons.mpr ⟨fun z hz => ?_, h⟩
      rcases List.mem_cons.mp hz with q | q
      · rw [q]; exact e
      · have := h1 z q; omega
    · split
      · exact h
      · rename_i e1 e2
        refine List.pairwise_cons.mpr ⟨fun z hz => ?_, insU_pw h2⟩
        rcases insU_mem.mp hz with q | q
        · rw [q]; omega
        · exact h1 z q
theorem sortU_pw : ∀ l : List Int, (sortU l).Pairwise (· < ·)
  | [] => List.Pairwise.nil
  | x :: r => insU_pw (sortU_pw r)
theorem asc_uniq : ∀ {l m : List Int}, l.Pairwise (· < ·) → m.Pairwise (· < ·) → (∀ k, k ∈ l ↔ k ∈ m) → l = m
  | [], [], _, _, _ => rfl
  | [], y :: m, _, _, h => by have := (h y).mpr List.mem_cons_self; cases this
  | x :: l, [], _, _, h => by have := (h x).mp List.mem_cons_self; cases this
  | x :: l, y :: m, hl, hm, h => by
    obtain ⟨l1, l2⟩ := List.pairwise_cons.mp hl
    obtain ⟨m1, m2⟩ := List.pairwise_cons.mp hm
    have e : x = y := by
      rcases List.mem_cons.mp ((h x).mp List.mem_cons_self) with e | hx
      · exact e
      · rcases List.mem_cons.mp ((h y).mpr List.mem_cons_self) with e | hy
        · exact e.symm
        · have := l1 y hy; have := m1 x hx; omega
    subst e
    rw [asc_uniq l2 m2 fun k => ?_]
    constructor
    · intro hk
      rcases List.mem_cons.mp ((h k).mp (List.mem_cons_of_mem _ hk)) with q | q
      · have := l1 k hk; omega
      · exact q
    · intro hk
      rcases List.mem_cons.mp ((h k).mpr (List.mem_cons_of_mem _ hk)) with q | q
      · have := m1 k hk; omega
      · exact q
theorem maxL_ok : ∀ (r : List Int) (m : Int), maxL m r ∈ m :: r ∧ ∀ y ∈ m :: r, y ≤ maxL m r
  | [], m => by unfold maxL; simp
  | x :: r, m => by
    unfold maxL
    obtain ⟨h1, h2⟩ := maxL_ok r (if m < x then x else m)
    refine ⟨?_, fun y hy => ?_⟩
    · rcases List.mem_cons.mp h1 with q | q
      · rw [q]
        split <;> simp
      · simp [q]
    · have h0 := h2 _ List.mem_cons_self
      rcases List.mem_cons.mp hy with q | q
      · subst q
        split at h0 <;> rename_i e
        · split <;> omega
        · split <;> omega
      · rcases List.mem_cons.mp q with q | q
        · subst q
          split at h0 <;> rename_i e
          · split <;> omega
          · split <;> omega
        · exact h2 y (List.mem_cons_of_mem _ q)
theorem minL_ok : ∀ (r : List Int) (m : Int), minL m r ∈ m :: r ∧ ∀ y ∈ m :: r, minL m r ≤ y
  | [], m => by unfold minL; simp
  | x :: r, m => by
    unfold minL
    obtain ⟨h1, h2⟩ := minL_ok r (if x < m then x else m)
    refine ⟨?_, fun y hy => ?_⟩
    · rcases List.mem_cons.mp h1 with q | q
      · rw [q]
        split <;> simp
      · simp [q]
    · have h0 := h2 _ List.mem_cons_self
      rcases List.mem_cons.mp hy with q | q
      · subst q
        split at h0 <;> rename_i e
        · split <;> omega
        · split <;> omega
      · rcases List.mem_cons.mp q with q | q
        · subst q
          split at h0 <;> rename_i e
          · split <;> omega
          · split <;> omega
        · exact h2 y (List.mem_cons_of_mem _ q)
section
variable {X : Cx} {G : Gt} {W : WX} {σ : L2.St} {ρ : List Addr} {H : Hp} {h : Hh}
/-! ### subscripts -/
def AnyI (X : Cx) : R2 := fun x y H Q => ∀ (value slice : Expr) (pins : List (Addr × Obj)) (s : Shared) (σ : L2.St) (v u : Value), Inv X pins σ H s → RelV x v → RelV y u →
  subscripted slice false v u = operate [v, u] (getItem v u) → wpAny (model X.prog X.w) X.A (PyProof.Rows.subscriptTail value slice v u) (EP X pins σ Q) X.xe s
theorem anyI : IxR X (AnyI X) := fun value slice pins s σ H x y v u Q I rx ry k hs => k value slice pins s σ v u I rx ry hs
theorem AnyI.of {r : R2} {x y : V} {Q : VK} (o : IxR X r) (k : r x y H Q) : AnyI X x y H Q := fun value slice pins s σ v u I rx ry hs => o value slice pins s σ H x y v u Q I rx ry k hs
def rIxD : R2 := fun x y H Q => ∃ a v, x = .ref a ∧ DGet H a y (some v) ∧ Q v H
theorem ix_dict (hu : X.A.units + 1 < cLine) : IxR X rIxD := by
  intro value slice pins s σ H x y v u Q I rx ry hq hs
  obtain ⟨a, w, rfl, g, q⟩ := hq
  obtain rfl : v = Value.ref a := rx
  exact tail_any (dict_typeIs I g) PySem.F.slot_dict_getitem.lookup (d_getItem hu I g ry fun w' s3 I3 rw' => ⟨w, H, I3, rw', q⟩) hs
theorem atI_rep {l : List D} {vs : List V} {j : Int} {d : D} (r : Reps X.K ρ H l vs) (e : atI l j = some d) : ∃ v, atI vs j = some v ∧ Rep X.K ρ H d v := by
  unfold atI at e ⊢
  rw [← r.length]
  cases e1 : ixN l.length j with
  | none => rw [e1] at e; cases e
  | some k =>
    rw [e1] at e
    exact r.get e
theorem getix_ok {x y : D} {vx vy : V} {Q : VK} (hu : X.A.units + 1 < cLine) (S : Sim X.K G ρ H h) (rx : Rep X.K ρ H x vx) (ry : Rep X.K ρ H y vy) (o : RD X G W σ ρ H Q (getix x y h)) : AnyI X vx vy H Q := by
  have lst : ∀ {p : Addr} {l : List D} {vs : List V} {j : Int}, vx = .ref p → vy = .int j → SqL X.K H p vs → Reps X.K ρ H l vs → RD X G W σ ρ H Q (ofOpt (atI l j) h) → AnyI X vx vy H Q := by
    intro p l vs j e1 e2 hs hr o
    cases e : atI l j with
    | none => rw [e] at o; exact False.elim o
    | some d =>
      rw [e] at o
      obtain ⟨v, h1, h2⟩ := atI_rep hr e
      exact .of ix_list ⟨p, vs, j, v, e1, e2, hs, h1, RD.val S o h2⟩
  unfold getix at o
  split at o
  · split at o
    · rename_i s _ j
      rw [rep_str] at rx; obtain ⟨rfl, ox⟩ := rx
      rw [rep_int] at ry; subst ry
      cases e : atI s j with
      | none => rw [e] at o; exact False.elim o
      | some c =>
        rw [e] at o
        refine .of ix_str ⟨toS s, j, c, rfl, rfl, by rw [toS_len]; exact ox.1, by rw [toS_cps]; exact e, ?_⟩
        have hc : c ∈ s := by
          unfold atI at e
          cases e1 : ixN s.length j with
          | none => rw [e1] at e; cases e
          | some k => rw [e1] at e; exact List.mem_of_getElem? e
        exact RD.val S o (rep_str.mpr ⟨rfl, by rw [sizeLine_eq]; simp, fun d hd => by rw [List.mem_singleton.mp hd]; exact ox.2 c hc⟩)
    · exact False.elim o
  · split at o
    · rename_i l e1
      split at o
      · obtain ⟨a, vs, rfl, ha, h1, h2⟩ := S.lst e1 rx
        rw [rep_int] at ry
        exact lst rfl ry (SqL.of h1) h2 o
      · exact False.elim o
    · rename_i kvs e1
      split at o
      · rename_i hk
        obtain ⟨a, ps, rfl, ha, h1, h2⟩ := S.dct e1 rx
        obtain ⟨κ, hκ, rfl⟩ := repK_of hk ry
        cases e3 : dget kvs y with
        | none => rw [e3] at o; exact False.elim o
        | some d =>
          rw [e3] at o
          obtain ⟨v, e4, r4⟩ := (h2.get hκ).1 d e3
          refine .of (ix_dict hu) ⟨a, v, rfl, ?_, RD.val S o r4⟩
          rw [← e4]
          exact DGet.k h1
      · exact False.elim o
    · exact False.elim o
  · split at o
    · rename_i l _ j
      obtain ⟨a, vs, rfl, h1, h2⟩ := rep_tup.mp rx
      rw [rep_int] at ry
      cases e : atI l j with
      | none => rw [e] at o; exact False.elim o
      | some d =>
        rw [e] at o
        obtain ⟨v, h3, h4⟩ := atI_rep h2 e
        exact .of ix_tup ⟨a, vs, j, v, rfl, ry, h1, h3, RD.val S o h4⟩
    · exact False.elim o
  · split at o
    · obtain ⟨a, vs, rfl, h1, h2⟩ := rep_rol.mp rx
      rw [rep_int] at ry
      exact lst rfl ry h1.sq h2 o
    · exact False.elim o
  · exact False.elim o

/-! ### slices -/
def AnyS (X : Cx) : V → Option Int → Option Int → Hp → VK → Prop := fun x lo hi H Q => ∀ (pins : List (Addr × Obj)) (s : Shared) (σ : L2.St) (v vl vu : Value) (sl : Addr), Inv X pins σ H s → RelV x v → s.heap.IsSliceOf sl vl vu .none → IsPart vl lo → IsPart vu hi →
  ∃ ty fn, typeLookup (.type ty) "__getitem__" = pure (some (.builtin fn)) ∧ s.TypeIs v ty ∧
    wpAny (model X.prog X.w) X.A (getItem v (.ref sl)) (EP X pins σ Q) X.xe s
theorem anyS : SlR X (AnyS X) := fun pins s σ H x v vl vu lo hi sl Q I rx hs pl pu k => k pins s σ v vl vu sl I rx hs pl pu
theorem AnyS.of {r : V → Option Int → Option Int → Hp → VK → Prop} {x : V} {lo hi : Option Int} {Q : VK} (o : SlR X r) (k : r x lo hi H Q) : AnyS X x lo hi H Q := fun pins s σ v vl vu sl I rx hs pl pu => o pins s σ H x v vl vu lo hi sl Q I rx hs pl pu k
theorem cutL_rep {l : List D} {vs : List V} (r : Reps X.K ρ H l vs) (lo hi : Option Int) : Reps X.K ρ H (cutL l lo hi) (cutV vs lo hi) := by
  unfold cutL cutV
  rw [r.length]
  exact (r.drop _).take _
theorem cutL_whole {α : Type} {l : List α} {lo hi : Option Int} (e : HT.sIx l.length 0 lo = 0 ∧ HT.sIx l.length l.length hi = l.length) : cutL l lo hi = l := by
  unfold cutL
  rw [e.1, e.2]; simp
theorem okS_cut {s : Nm} (o : okS s) (lo hi : Option Int) : okS (cutL s lo hi) := by
  unfold cutL
  refine ⟨?_, fun c hc => o.2 c (List.mem_of_mem_drop (List.mem_of_mem_take hc))⟩
  have := o.1
  rw [List.length_take, List.length_drop]
  omega
theorem slice_ok {x : D} {vx : V} {lo hi : Option Int} {Q : VK} (S : Sim X.K G ρ H h) (rx : Rep X.K ρ H x vx) (o : RD X G W σ ρ H Q (slice x lo hi h)) : AnyS X vx lo hi H Q := by
  unfold slice at o
  split at o
  · rename_i s
    rw [rep_str] at rx; obtain ⟨rfl, ox⟩ := rx
    refine .of sl_str ⟨toS s, rfl, by rw [toS_len]; exact ox.1, RD.val S o (rep_str.mpr ⟨?_, okS_cut ox lo hi⟩)⟩
    unfold cutS cutL
    rw [toS_cps, toS_len] <;> rfl
  · rename_i l
    obtain ⟨a, vs, rfl, h1, h2⟩ := rep_tup.mp rx
    refine .of sl_tupA ⟨a, vs, rfl, h1, fun e => ?_, fun _ => RD.tup S o (cutL_rep h2 lo hi)⟩
    rw [cutL_whole (by rw [h2.length]; exact e)] at o
    exact RD.val S o (rep_tup.mpr ⟨a, vs, rfl, h1, h2⟩)
  · obtain ⟨a, vs, rfl, h1, h2⟩ := rep_rol.mp rx
    exact .of sl_list ⟨a, vs, rfl, h1.sq, RD.alloc S o (cutL_rep h2 lo hi)⟩
  · split at o
    · rename_i l e1
      obtain ⟨a, vs, rfl, ha, h1, h2⟩ := S.lst e1 rx
      exact .of sl_list ⟨a, vs, rfl, SqL.of h1, RD.alloc S o (cutL_rep h2 lo hi)⟩
    · exact False.elim o
  · exact False.elim o

/-! ### stores -/
abbrev RU (X : Cx) (G : Gt) (W : WX) (σ : L2.St) (ρ : List Addr) (H : Hp) (Q : Hp → Prop) (r : Res Unit) : Prop := Out X.K G W σ ρ H (fun _ H' _ _ => Q H') r
theorem RU.wr {Q : Hp → Prop} {n : Nat} {a : Addr} {o o' : O} {u : HO} (S : Sim X.K G ρ H h) (hn : h[n]? = some o) (ha : ρ[n]? = some a) (q : RU X G W σ ρ H Q (.ok () (h.set n o'))) (r : ObjR X.K G ρ (upd H a u) o' a) : Q (upd H a u) :=
  q ρ _ (ext_wr S hn ha) (S.wr hn ha r)
theorem RD.wr {Q : VK} {n : Nat} {a : Addr} {o o' : O} {u : HO} {d : D} {v : V} (S : Sim X.K G ρ H h) (hn : h[n]? = some o) (ha : ρ[n]? = some a) (q : RD X G W σ ρ H Q (.ok d (h.set n o'))) (r : ObjR X.K G ρ (upd H a u) o' a) (rv : Rep X.K ρ H d v) : Q v (upd H a u) :=
  q ρ _ (ext_wr S hn ha) (S.wr hn ha r) v (Rep.ext (ext_wr S hn ha) d v rv)
def AnyP (X : Cx) : TSet := fun o i v H Q => ∀ (pins : List (Addr × Obj)) (s : Shared) (σ : L2.St) (ov iv u : Value), Inv X pins σ H s → RelV o ov → RelV i iv → RelV v u →
  wpAny (model X.prog X.w) X.A (setItem ov iv u)
    (fun _ t => ∃ J, Inv X pins σ J t ∧ Q J) X.xe s
theorem anyP : PSet X (AnyP X) := fun pins s σ H o i v ov iv u Q I ro ri rv k => k pins s σ ov iv u I ro ri rv
theorem setix_ok {x y z : D} {vx vy vz : V} {Q : Hp → Prop} (hu : X.A.units + 1 < cLine) (S : Sim X.K G ρ H h) (rx : Rep X.K ρ H x vx) (ry : Rep X.K ρ H y vy) (rz : Rep X.K ρ H z vz) (o : RU X G W σ ρ H Q (setix x y z h)) : AnyP X vx vy vz H Q := by
  unfold setix at o
  split at o
  · rename_i n
    split at o
    · rename_i l e1
      split at o
      · rename_i j
        split at o
        · rename_i k e2
          obtain ⟨a, vs, rfl, ha, h1, h2⟩ := S.lst e1 rx
          rw [rep_int] at ry; subst ry
          have q := RU.wr (u := .lst (vs.set k vz)) S e1 ha o ⟨vs.set k vz, upd_same, Reps.ext (ext_wr S e1 ha) _ _ (h2.set k rz)⟩
          intro pins s σ ov iv u I ro ri rv
          exact set_list pins s σ H _ _ vz ov iv u Q I ro ri rv ⟨a, vs, j, k, rfl, rfl, h1, by rw [← h2.length]; exact e2, q⟩
        · exact False.elim o
      · exact False.elim o
    · rename_i kvs e1
      split at o
      · rename_i hc
        rw [Bool.and_eq_true, decide_eq_true_eq] at hc
        obtain ⟨a, ps, rfl, ha, h1, h2⟩ := S.dct e1 rx
        obtain ⟨κ, hκ, rfl⟩ := repK_of hc.1 ry
        have q := RU.wr (u := .dK (putK ps κ vz)) S e1 ha o ⟨putK ps κ vz, upd_same, (h2.put hκ rz).ext (ext_wr S e1 ha)⟩
        intro pins s σ ov iv u I ro ri rv
        obtain rfl : ov = Value.ref a := ro
        exact d_setItem hu I (DPut.k h1 (by rw [← h2.len, ← SZ_eq]; exact hc.2)) ri rv fun s4 I4 => ⟨_, I4, q⟩
      · exact False.elim o
    · exact False.elim o
  · exact False.elim o
/-- del o[i] -/
theorem delix_ok {x y : D} {vx vy : V} {Q : Hp → Prop} (S : Sim X.K G ρ H h) (rx : Rep X.K ρ H x vx) (ry : Rep X.K ρ H y vy) (o : RU X G W σ ρ H Q (delix x y h)) :
    ∃ a ps κ, vx = .ref a ∧ H a = some (.dK ps) ∧ vy = L2.kV κ ∧ (valV ps κ).isSome = true ∧ Q (upd H a (.dK (dropK ps κ))) := by
  unfold delix at o
  split at o
  · split at o
    · rename_i kvs e1
      split at o
      · rename_i hc
        rw [Bool.and_eq_true] at hc
        obtain ⟨a, ps, rfl, ha, h1, h2⟩ := S.dct e1 rx
        obtain ⟨κ, hκ, rfl⟩ := repK_of hc.1 ry
        refine ⟨a, ps, κ, rfl, h1, rfl, ?_, RU.wr S e1 ha o ⟨dropK ps κ, upd_same, (h2.drop hκ).ext (ext_wr S e1 ha)⟩⟩
        cases e3 : dget kvs y with
        | none => rw [e3] at hc; exact absurd hc.2 (by simp)
        | some d => obtain ⟨v, e4, _⟩ := (h2.get hκ).1 d e3; rw [e4] <;> rfl
      · exact False.elim o
    · exact False.elim o
  · exact False.elim o

/-! ### attributes -/
theorem getfl_ok {x : D} {vx : V} {f : Nm} {Q : VK} (S : Sim X.K G ρ H h) (rx : Rep X.K ρ H x vx) (o : RD X G W σ ρ H Q (getfl x f h)) :
    ∃ a C dx fs v, vx = .ref a ∧ H a = some (.ins C dx fs) ∧ Cls X.K C ∧ NoAttr X.K C (toS f) ∧ fs.lookup (toS f) = some v ∧ Q v H := by
  unfold getfl at o
  split at o
  · split at o
    · rename_i c fs e1
      obtain ⟨a, dx, vs, rfl, ha, h1, h2, h3⟩ := S.ins e1 rx
      cases e : fget fs f with
      | none => rw [e] at o; exact False.elim o
      | some d =>
        rw [e] at o
        obtain ⟨hN, v, e4, r4⟩ := (h2.get f).1 d e
        exact ⟨a, _, dx, vs, v, rfl, h1, h3.cl, hN, e4, RD.val S o r4⟩
    · exact False.elim o
  · exact False.elim o
theorem setfl_ok {x z : D} {vx vz : V} {f : Nm} {Q : Hp → Prop} (S : Sim X.K G ρ H h) (rx : Rep X.K ρ H x vx) (rz : Rep X.K ρ H z vz) (o : RU X G W σ ρ H Q (setfl G.tb x f z h)) :
    ∃ a C dx fs, vx = .ref a ∧ H a = some (.ins C dx fs) ∧ Cls X.K C ∧ NoAttr X.K C (toS f) ∧ fs.length < 1000 ∧ Q (upd H a (.ins C dx (putF (toS f) vz fs))) := by
  unfold setfl at o
  split at o
  · split at o
    · rename_i c fs e1
      split at o
      · rename_i hc
        obtain ⟨a, dx, vs, rfl, ha, h1, h2, h3⟩ := S.ins e1 rx
        have hN : NoAttr X.K (G.cad c) (toS f) := by
          rcases Bool.or_eq_true_iff.mp hc.2 with z | z
          · cases e : fget fs f with
            | none => rw [e] at z; cases z
            | some d => exact ((h2.get f).1 d e).1
          · exact h3.at_ f z
        exact ⟨a, _, dx, vs, rfl, h1, h3.cl, hN, by rw [← h2.len]; exact hc.1, RU.wr S e1 ha o ⟨dx, _, upd_same, (h2.put hN rz).ext (ext_wr S e1 ha), h3⟩⟩
      · exact False.elim o
    · exact False.elim o
  · exact False.elim o

/-! ### built-in functions -/
def AnyC (X : Cx) (f : Value) : List V → Hp → VK → Prop := fun xs H Q => ∀ (pins : List (Addr × Obj)) (s : Shared) (σ : L2.St) (us : List Value), Inv X pins σ H s → Vals xs us → wpAny (model X.prog X.w) X.A (call f us) (EP X pins σ Q) X.xe s
theorem anyC {f : Value} : CallR X f (AnyC X f) := fun pins s σ H xs us Q I r k => k pins s σ us I r
theorem AnyC.of {f : Value} {r : List V → Hp → VK → Prop} {xs : List V} {Q : VK} (o : CallR X f r) (k : r xs H Q) : AnyC X f xs H Q := fun pins s σ us I rv => o pins s σ H xs us Q I rv k
/-- the value that a built-in's name has -/
def bfV : Bf → Value
  | .len => .builtin "len"
  | .abs => .builtin "abs"
  | .int => .type "int"
  | .str => .type "str"
  | .tuple => .type "tuple"
  | .list => .type "list"
  | .sum => .builtin "sum"
  | .max2 => .builtin "max"
  | .min2 => .builtin "min"
  | .ord => .builtin "ord"
  | .sorted => .builtin "sorted"
  | .isa _ => .builtin "isinstance"
  | .dict => .type "dict"
  | .any => .builtin "any"
  | .all => .builtin "all"
  | .set => .type "set"
  | .max1 => .builtin "max"
  | .min1 => .builtin "min"
/-- the arguments as they are handed over: isinstance has its class behind -/
def bfA : Bf → List V → List V
  | .isa T, vs => vs ++ [.ty T]
  | _, vs => vs
theorem reps1 {d : D} {vs : List V} (r : Reps X.K ρ H [d] vs) : ∃ v, vs = [v] ∧ Rep X.K ρ H d v := by
  rw [Reps] at r
  obtain ⟨v, ws, rfl, h1, h2⟩ := r
  rw [Reps] at h2; subst h2
  exact ⟨v, rfl, h1⟩
theorem reps2 {d e : D} {vs : List V} (r : Reps X.K ρ H [d, e] vs) : ∃ v w, vs = [v, w] ∧ Rep X.K ρ H d v ∧ Rep X.K ρ H e w := by
  rw [Reps] at r
  obtain ⟨v, ws, rfl, h1, h2⟩ := r
  obtain ⟨w, rfl, h3⟩ := reps1 h2
  exact ⟨v, w, rfl, h1, h3⟩
theorem ints_ok : ∀ {l : List D} {vs : List V} {n : Int}, sumD l = some n → Reps X.K ρ H l vs → ∃ ns : List Int, vs = ns.map V.int ∧ ns.sum = n
  | [], vs, n, e, r => by
    rw [Reps] at r; subst r
    cases e
    exact ⟨[], rfl, rfl⟩
  | d :: l, vs, n, e, r => by
    rw [Reps] at r
    obtain ⟨v, ws, rfl, r1, r2⟩ := r
    cases d with
    | int i =>
      simp only [sumD] at e
      obtain ⟨m, e1, e2⟩ := Option.map_eq_some_iff.mp e
      obtain ⟨ns, rfl, e3⟩ := ints_ok e1 r2
      rw [rep_int] at r1; subst r1
      exact ⟨i :: ns, rfl, by rw [List.sum_cons, e3]; exact e2⟩
    | _ => cases e
theorem tyName_ok {x : D} {v : V} {t : String} (S : Sim X.K G ρ H h) (r : Rep X.K ρ H x v) (e : tyName h x = some t) : TyX X.K H v (.type t) := by
  unfold tyName at e
  split at e
  · cases e; rw [rep_non] at r; subst r; exact .base .non
  · cases e; rw [rep_bl] at r; subst r; exact .base (.bl _)
  · cases e; rw [rep_int] at r; subst r; exact .base (.int _)
  · cases e; rw [rep_str] at r; obtain ⟨rfl, _⟩ := r; exact .base (.str _)
  · cases e; obtain ⟨a, vs, rfl, h1, _⟩ := rep_tup.mp r
    rcases h1 with (h1 | ⟨o, h1⟩) | ⟨o, its, n, h1, h2, _⟩
    · exact .base (.tup h1)
    · exact .fTuple h1
    · exact .kTuple h1 h2
  · cases e; obtain ⟨a, vs, rfl, h1, _⟩ := rep_rol.mp r
    rcases h1 with ⟨o, z⟩ | (z | ⟨o, z⟩) | ⟨o, its, n, z, y, _⟩
    · exact .base (.frz z)
    · cases z
    · cases z
    · exact .kList z y
  · split at e
    · rename_i l e1
      cases e
      obtain ⟨a, vs, rfl, ha, h1, h2⟩ := S.lst e1 r
      exact .base (.lst h1)
    · rename_i l e1
      cases e
      obtain ⟨a, vs, rfl, ha, h1, h2⟩ := S.dct e1 r
      exact .base (.dK h1)
    · cases e
theorem kit_isa {K : PySem.W.Frag} {t T : String} (h1 : t ∈ ["NoneType", "bool", "int", "str", "tuple", "list", "dict"]) (h2 : T ∈ isaTs) : PySem.W.kitOne K (.type t) (.type T) = some (isaT t T) := by
  have all : (["NoneType", "bool", "int", "str", "tuple", "list", "dict"].all fun t => isaTs.all fun T => decide (kitB t T = some (isaT t T))) = true := by decide +kernel
  exact kit_ty (of_decide_eq_true (List.all_eq_true.mp (List.all_eq_true.mp all t h1) T h2))
theorem tyName_mem {x : D} {t : String} (e : tyName h x = some t) : t ∈ ["NoneType", "bool", "int", "str", "tuple", "list", "dict"] := by
  unfold tyName at e
  split at e <;> (try (cases e; decide))
  split at e <;> (try (cases e; decide))
  cases e
theorem dg_len {n k : Nat} (hk : 0 < k) (h : n < 10 ^ k) : (dg n).length ≤ k := by
  unfold dg
  rw [List.length_map]
  exact (Nat.length_toDigits_le_iff (by decide) hk).mpr h
theorem dig_range {ch : Char} (h : ch.isDigit = true) : 48 ≤ ch.toNat ∧ ch.toNat ≤ 57 := by
  simp only [Char.isDigit, Bool.and_eq_true, decide_eq_true_eq] at h
  obtain ⟨h1, h2⟩ := h
  exact ⟨h1, h2⟩
theorem dg_digit {n c : Nat} (h : c ∈ dg n) : 48 ≤ c ∧ c ≤ 57 := by
  unfold dg at h
  obtain ⟨ch, hch, e⟩ := List.mem_map.mp h
  have r := dig_range (Nat.isDigit_of_mem_toDigits (by decide) (by decide) hch)
  rw [← e]
  exact r
theorem log_lt {n : Nat} (h : n.log2 < 1920) : n < 10 ^ 600 := by
  by_cases z : n = 0
  · subst z; exact Nat.pow_pos (by decide)
  · have := (Nat.log2_lt z).mp h
    exact Nat.lt_of_lt_of_le this (by decide +kernel)
theorem okS_int {i : Int} (h : i.natAbs.log2 < 1920) : okS (strInt i) := by
  have hl := log_lt h
  unfold strInt
  split
  · rename_i h0
    have e : i.toNat = i.natAbs := by omega
    rw [e]
    exact ⟨Nat.le_trans (dg_len (by decide) hl) (by rw [sizeLine_eq]; decide), fun c hc => by have := dg_digit hc; omega⟩
  · rename_i h0
    have e : (-i).toNat = i.natAbs := by omega
    rw [e]
    refine ⟨?_, fun c hc => ?_⟩
    · rw [List.length_cons]
      exact Nat.le_trans (Nat.succ_le_succ (dg_len (by decide) hl)) (by rw [sizeLine_eq]; decide)
    · rcases List.mem_cons.mp hc with z | z
      · subst z; decide
      · have := dg_digit z; omega
theorem toS_strInt (i : Int) : toS (strInt i) = Str.ofString (toString i) := by
  have inj : ∀ {a b : Str}, a.cps.toList = b.cps.toList → a = b := by
    intro a b h
    cases a; cases b
    simpa using h
  apply inj
  rw [toS_cps]
  unfold strInt
  cases i with
  | ofNat m =>
    have h0 : (0 : Int) ≤ Int.ofNat m := Int.natCast_nonneg m
    simp only [h0, if_true]
    exact (PySem.W.KIN.signs_num m).symm
  | negSucc m =>
    rw [if_neg (by omega)]
    have e : (-Int.negSucc m).toNat = m + 1 := by omega
    rw [e]
    have e2 : toString (Int.negSucc m) = "-" ++ Nat.repr (m + 1) := rfl
    rw [e2]
    have e3 : (Str.ofString ("-" ++ Nat.repr (m + 1))).cps.toList = ("-" ++ Nat.repr (m + 1)).toList.map Char.toNat := by
      rw [Str.ofString_eq_toList]
    rw [e3, String.toList_append, List.map_append, Nat.toList_repr] <;> rfl
theorem seqOf_ok {x : D} {v : V} {l : List D} (S : Sim X.K G ρ H h) (r : Rep X.K ρ H x v) (e : seqOf h x = some l) : ∃ p vs, v = .ref p ∧ (SqL X.K H p vs ∨ SqT X.K H p vs) ∧ Reps X.K ρ H l vs ∧ (∀ m, x = .tup m → SqT X.K H p vs) ∧ ((∀ m, x ≠ .tup m) → SqL X.K H p vs) := by
  unfold seqOf at e
  split at e
  · cases e; obtain ⟨a, vs, rfl, h1, h2⟩ := rep_tup.mp r
    exact ⟨a, vs, rfl, .inr h1, h2, fun _ _ => h1, fun z => absurd rfl (z _)⟩
  · cases e; obtain ⟨a, vs, rfl, h1, h2⟩ := rep_rol.mp r
    exact ⟨a, vs, rfl, .inl h1.sq, h2, fun _ z => (by cases z), fun _ => h1.sq⟩
  · split at e
    · rename_i l e1
      cases e
      obtain ⟨a, vs, rfl, ha, h1, h2⟩ := S.lst e1 r
      exact ⟨a, vs, rfl, .inl (SqL.of h1), h2, fun _ z => (by cases z), fun _ => SqL.of h1⟩
    · cases e
  · cases e
theorem lstOf_ok {x : D} {v : V} {l : List D} (S : Sim X.K G ρ H h) (r : Rep X.K ρ H x v) (e : lstOf h x = some l) : ∃ p vs, v = .ref p ∧ SqL X.K H p vs ∧ Reps X.K ρ H l vs := by
  unfold lstOf at e
  split at e
  · cases e; obtain ⟨a, vs, rfl, h1, h2⟩ := rep_rol.mp r
    exact ⟨a, vs, rfl, h1.sq, h2⟩
  · split at e
    · rename_i l e1
      cases e
      obtain ⟨a, vs, rfl, ha, h1, h2⟩ := S.lst e1 r
      exact ⟨a, vs, rfl, SqL.of h1, h2⟩
    · cases e
  · cases e
theorem reps_ints_of : ∀ {l : List D} {vs : List V} {ns : List Int}, intsD l = some ns → Reps X.K ρ H l vs → vs = ns.map V.int
  | [], vs, ns, e, r => by
    rw [Reps] at r; subst r
    cases e; rfl
  | d :: l, vs, ns, e, r => by
    rw [Reps] at r
    obtain ⟨v, ws, rfl, r1, r2⟩ := r
    cases d with
    | int i =>
      simp only [intsD] at e
      obtain ⟨ms, e1, e2⟩ := Option.map_eq_some_iff.mp e
      subst e2
      rw [rep_int] at r1; subst r1
      rw [reps_ints_of e1 r2] <;> rfl
    | _ => cases e
theorem reps_bools_of : ∀ {l : List D} {vs : List V} {ns : List Bool}, boolsD l = some ns → Reps X.K ρ H l vs → vs = ns.map V.bl
  | [], vs, ns, e, r => by
    rw [Reps] at r; subst r
    cases e; rfl
  | d :: l, vs, ns, e, r => by
    rw [Reps] at r
    obtain ⟨v, ws, rfl, r1, r2⟩ := r
    cases d with
    | bl i =>
      simp only [boolsD] at e
      obtain ⟨ms, e1, e2⟩ := Option.map_eq_some_iff.mp e
      subst e2
      rw [rep_bl] at r1; subst r1
      rw [reps_bools_of e1 r2] <;> rfl
    | _ => cases e
theorem reps_int_map (ns : List Int) : Reps X.K ρ H (ns.map .int) (ns.map V.int) := by
  induction ns with
  | nil => exact Reps.nil
  | cons n r ih => exact Reps.cons (rep_int.mpr rfl) ih
theorem repD_keys : ∀ {l : List (D × D)} {ps : List (Key × V)} {ks : List Int}, ikeys l = some ks → RepD X.K ρ H l ps → ps.map (·.1) = ks.map Sum.inl
  | [], ps, ks, e, r => by
    cases r
    cases e; rfl
  | (d, d2) :: l, ps, ks, e, r => by
    cases r with
    | cons h1 h2 h3 =>
      cases d with
      | int i =>
        simp only [ikeys] at e
        obtain ⟨ms, e1, e2⟩ := Option.map_eq_some_iff.mp e
        subst e2
        have := repD_keys e1 h3
        have e3 : _ = Sum.inl i := h1
        subst e3
        simp [this]
      | _ => cases e
theorem RD.allocD {Q : VK} {l : List (D × D)} {ps : List (Key × V)} (S : Sim X.K G ρ H h) (o : RD X G W σ ρ H Q (Z.alloc h (.dct l))) (r : RepD X.K ρ H l ps) : ∀ p, H p = none → Q (.ref p) (upd H p (.dK ps)) := by
  intro p hp
  have e := ext_new (ρ := ρ) (o := HO.dK ps) hp
  exact o _ _ e (S.new hp ⟨ps, upd_same, r.ext e⟩) _ (rep_ref.mpr ⟨p, rfl, by rw [← S.len]; simp⟩)
/-- tuples of ints -/
noncomputable def kT (X : Cx) (H : Hp) (v : V) : List Int := Classical.epsilon fun p => ∃ t, v = .ref t ∧ SqT X.K H t (p.map V.int)
theorem vint_inj {a b : List Int} (h : a.map V.int = b.map V.int) : a = b := by
  induction a generalizing b with
  | nil => cases b with
    | nil => rfl
    | cons y b => cases h
  | cons x a ih => cases b with
    | nil => cases h
    | cons y b =>
      obtain ⟨h1, h2⟩ := List.cons.inj h
      rw [V.int.inj h1, ih h2]
theorem kT_of {t : Addr} {p : List Int} (hi : ∀ xs ys, SqT X.K H t xs → SqT X.K H t ys → xs = ys) (hs : SqT X.K H t (p.map V.int)) : kT X H (.ref t) = p := by
  have := Classical.epsilon_spec (p := fun p : List Int => ∃ t', V.ref t = .ref t' ∧ SqT X.K H t' (p.map V.int)) ⟨p, t, rfl, hs⟩
  obtain ⟨t', e, h2⟩ := this
  cases e
  exact vint_inj (hi _ _ h2 hs)
theorem reps_tups_of (hi : ∀ t xs ys, SqT X.K H t xs → SqT X.K H t ys → xs = ys) : ∀ {l : List D} {vs : List V} {ps : List (List Int)}, itupsD l = some ps → Reps X.K ρ H l vs →
    ps = vs.map (kT X H) ∧ ∀ v ∈ vs, ∃ t, v = .ref t ∧ SqT X.K H t ((kT X H v).map V.int) ∧ kT X H v ≠ []
  | [], vs, ns, e, r => by
    rw [Reps] at r; subst r
    cases e
    exact ⟨rfl, fun _ h => by cases h⟩
  | d :: l, vs, ns, e, r => by
    rw [Reps] at r
    obtain ⟨v, ws, rfl, r1, r2⟩ := r
    unfold itupsD at e
    split at e
    · rename_i kk ks e1 e2
      cases e
      obtain ⟨h1, h2⟩ := reps_tups_of hi e2 r2
      unfold itupD at e1
      split at e1
      · obtain ⟨t, us, rfl, h3, h4⟩ := rep_tup.mp r1
        have e5 := reps_ints_of e1 h4
        subst e5
        have e4 := kT_of (hi t) h3
        have hne : kk ≠ [] := by
          rintro rfl
          have := h4.length
          simp at this
        refine ⟨by rw [List.map_cons, ← h1, e4], fun v hv => ?_⟩
        rcases List.mem_cons.mp hv with z | z
        · subst z
          rw [e4]
          exact ⟨t, rfl, h3, hne⟩
        · exact h2 v z
      · cases e1
    · cases e
theorem reps_tup_map : ∀ {vs : List V}, (∀ v ∈ vs, ∃ t, v = .ref t ∧ SqT X.K H t ((kT X H v).map V.int)) → Reps X.K ρ H ((vs.map (kT X H)).map fun p => .tup (p.map .int)) vs
  | [], _ => Reps.nil
  | v :: vs, h => by
    obtain ⟨t, e, hs⟩ := h v List.mem_cons_self
    exact Reps.cons (rep_tup.mpr ⟨t, _, e, hs, reps_int_map _⟩) (reps_tup_map fun u hu => h u (List.mem_cons_of_mem _ hu))
theorem tupItems_ints : ∀ {p : List Int} {us : List Value} (i : Nat), Vals (p.map V.int) us → PyProof.Rows.tupItems (fun _ => false) i us = some (p.map Sum.inl)
  | [], _, i, .nil => rfl
  | n :: p, _, i, .cons r t => by
    obtain ⟨k, rfl⟩ := r
    show (if false = true then none else (PyProof.Rows.tupItems (fun _ => false) (i + 1) _).map (Sum.inl n :: ·)) = _
    rw [if_neg (by decide), tupItems_ints (i + 1) t]
    rfl
/-- sorted(xs), xs tuples of ints -/
theorem cr_sortedT' : CallR X (.builtin "sorted") (fun vs H Q => ∃ (a : Addr) (xs : List V), vs = [V.ref a] ∧ SqL X.K H a xs ∧ ((∀ t xs ys, SqT X.K H t xs → SqT X.K H t ys → xs = ys) → (∀ x ∈ xs, ∃ t, x = V.ref t ∧ SqT X.K H t ((kT X H x).map V.int) ∧ kT X H x ≠ []) ∧
    ∀ ys p, ys.Perm xs → (ys.map (kT X H)).Pairwise (fun a b => leL a b = true) → H p = none → Q (.ref p) (upd H p (.lst ys)))) := by
  intro pins s σ H vs us Q I r h
  obtain ⟨a, xs, rfl, hs, h⟩ := h
  obtain ⟨hx, q⟩ := h fun t xs ys h1 h2 => I.tuple_inj h1 h2
  obtain ⟨its, rv, hl, hz⟩ := I.list hs
  obtain ⟨u, rfl, ru⟩ := vals1 r
  obtain rfl : u = Value.ref a := ru
  obtain ⟨e1, e2⟩ := refs_back rv fun x m => by
    obtain ⟨t, e, _⟩ := hx x m
    exact ⟨t, e⟩
  have look : ∀ v ∈ its, PyProof.Rows.G.tupKeyC s.heap (fun _ => false) v = some ((kT X H (backV v)).map Sum.inl) ∧ ∃ f, PyProof.Rows.TupOf s.heap (fun _ => false) v f := fun v hv => by
    obtain ⟨t, rfl⟩ := e2 v hv
    have hm : V.ref t ∈ xs := by
      rw [e1]
      exact List.mem_map.mpr ⟨_, hv, rfl⟩
    obtain ⟨t', e, ht, hne⟩ := hx _ hm
    cases e
    obtain ⟨its2, r2, ⟨ob, ho, hc, n, hd⟩, _⟩ := I.tuple ht
    have hi2 := tupItems_ints 0 r2
    refine ⟨?_, ?_⟩
    · unfold PyProof.Rows.G.tupKeyC PyProof.Rows.G.isTupObj PyProof.Rows.tupKey
      simp only [ho, hc, hd]
      have e0 : backV (Value.ref t) = V.ref t := rfl
      rw [e0]
      simpa using hi2
    · have e3 : backV (Value.ref t) = V.ref t := rfl
      cases ek : kT X H (V.ref t) with
      | nil => exact absurd ek hne
      | cons n1 rest =>
        rw [ek] at r2
        cases r2 with
        | cons g1 g2 =>
          obtain ⟨tk, rfl⟩ := g1
          exact ⟨_, t, ob, _, n, rfl, ho, hc, hd, rfl, fun _ => ⟨n1, tk, rfl⟩, fun z => by cases z⟩
  have tof : ∀ l : List Value, (∀ v ∈ l, ∃ f, PyProof.Rows.TupOf s.heap (fun _ => false) v f) → ∃ fs, PyProof.Rows.TupsOf s.heap (fun _ => false) l fs := by
    intro l
    induction l with
    | nil => exact fun _ => ⟨[], .nil⟩
    | cons v l ih =>
      intro hv
      obtain ⟨f, hf⟩ := hv v List.mem_cons_self
      obtain ⟨fs, hfs⟩ := ih fun u hu => hv u (List.mem_cons_of_mem _ hu)
      exact ⟨f :: fs, .cons hf hfs⟩
  obtain ⟨fs, hfs⟩ := tof its fun v hv => (look v hv).2
  refine PyProof.Rows.G.sorted_tups hl.isList hfs (fun v hv => ⟨_, (look v hv).1⟩) (by rw [← rv.length]; exact hz) fun st' hp hsr _ => ?_
  have pl : (PyProof.Rows.arrOf st').toList.Perm (its.zip its) := by
    have := hp.toList
    rw [PyProof.Rows.pairsOf_toList] at this
    exact this
  have pz : ((PyProof.Rows.arrOf st').toList.map (·.2)).Perm its := by
    have := pl.map (·.2)
    rwa [List.map_snd_zip (Nat.le_refl _)] at this
  have all : ∀ u ∈ (PyProof.Rows.arrOf st').toList.map (·.2), ∃ a, u = Value.ref a := fun u hu => e2 u (pz.mem_iff.mp hu)
  obtain ⟨n, hn⟩ := PyProof.Rows.sortedAll_at s.heap its ((PyProof.Rows.arrOf st').map (·.2))
  have eo : (PyProof.Rows.arrOf st').map (·.2) = ((PyProof.Rows.arrOf st').toList.map (·.2)).toArray := by
    apply Array.ext'
    rw [Array.toList_map]
  rw [eo] at hn
  have pr : (((PyProof.Rows.arrOf st').toList.map (·.2)).map backV).Perm xs := by
    rw [e1]
    exact pz.map backV
  have fits : (((PyProof.Rows.arrOf st').toList.map (·.2)).map backV).length ≤ sizeLine := by
    rw [pr.length_eq]
    exact hz
  have pw : ((((PyProof.Rows.arrOf st').toList.map (·.2)).map backV).map (kT X H)).Pairwise (fun a b => leL a b = true) := by
    rw [List.map_map, List.map_map, List.pairwise_map, List.pairwise_iff_getElem]
    intro i j hi hj hij
    have hsz : j < (PyProof.Rows.pairsOf its).size := by
      rw [PyProof.Rows.pairsOf_size]
      have := pl.length_eq
      simp at this hj
      omega
    have := hsr i j (Nat.le_of_lt hij) hsz
    have key : ∀ m (hm : m < (PyProof.Rows.arrOf st').toList.length), PyProof.Rows.KK (PyProof.Rows.G.tupKindC s.heap fun _ => false) (PyProof.Rows.arrOf st') m = (kT X H (backV ((PyProof.Rows.arrOf st').toList[m]).2)).map Sum.inl := by
      intro m hm
      have hmem := pl.mem_iff.mp (List.getElem_mem hm)
      obtain ⟨g1, g2⟩ := PyProof.Rows.mem_zip_self hmem
      have hm2 : m < (PyProof.Rows.arrOf st').size := by simpa using hm
      unfold PyProof.Rows.KK
      have : (PyProof.Rows.arrOf st')[m]? = some ((PyProof.Rows.arrOf st').toList[m]) := by simp [hm2]
      rw [this]
      show (PyProof.Rows.G.tupKeyC s.heap (fun _ => false) ((PyProof.Rows.arrOf st').toList[m]).1).getD [] = _
      rw [(look _ g2).1, g1]
      rfl
    rw [key i hi, key j hj] at this
    exact leL_iff.mpr this
  refine ⟨.ref (s.heap.objs.size + 1), upd H (s.heap.objs.size + 1) (.lst _), I.laid (t' := s.toks) (fun _ _ => PyProof.Rows.sortedAll_old) (Nat.le_succ _) ⟨fits, _, n, vals_back all, ?_⟩, rfl, q _ _ pr pw (I.hok.fresh (Nat.le_succ _))⟩
  rw [eo]
  exact hn
theorem bltop_ok {f : Bf} {ds : List D} {vs : List V} {Q : VK} (hc : X.calm = true) (S : Sim X.K G ρ H h) (r : Reps X.K ρ H ds vs) (o : RD X G W σ ρ H Q (bltop f ds h)) : AnyC X (bfV f) (bfA f vs) H Q := by
  unfold bltop at o
  split at o
  · obtain ⟨v, rfl, r1⟩ := reps1 r
    rw [rep_str] at r1; obtain ⟨rfl, ox⟩ := r1
    refine .of call_len ⟨_, _, rfl, ⟨by rw [toS_len]; exact ox.1, rfl⟩, ?_⟩
    rw [toS_len]
    exact RD.val S o (rep_int.mpr rfl)
  · obtain ⟨v, rfl, r1⟩ := reps1 r
    split at o
    · rename_i l e1
      obtain ⟨a, vs, rfl, ha, h1, h2⟩ := S.lst e1 r1
      refine .of call_len_seq ⟨a, vs, rfl, .inl (SqL.of h1), ?_⟩
      rw [← h2.length]
      exact RD.val S o (rep_int.mpr rfl)
    · rename_i l e1
      obtain ⟨a, vs, rfl, ha, h1, h2⟩ := S.dct e1 r1
      refine .of call_lenD ⟨a, vs, rfl, h1, ?_⟩
      rw [← h2.len]
      exact RD.val S o (rep_int.mpr rfl)
    · exact False.elim o
  · obtain ⟨v, rfl, r1⟩ := reps1 r
    obtain ⟨a, vs, rfl, h1, h2⟩ := rep_tup.mp r1
    refine .of call_len_seq ⟨a, vs, rfl, .inr h1, ?_⟩
    rw [← h2.length]
    exact RD.val S o (rep_int.mpr rfl)
  · obtain ⟨v, rfl, r1⟩ := reps1 r
    obtain ⟨a, vs, rfl, h1, h2⟩ := rep_rol.mp r1
    refine .of call_len_seq ⟨a, vs, rfl, .inl h1.sq, ?_⟩
    rw [← h2.length]
    exact RD.val S o (rep_int.mpr rfl)
  · obtain ⟨v, rfl, r1⟩ := reps1 r
    rw [rep_int] at r1; subst r1
    exact .of call_abs ⟨_, rfl, RD.val S o (rep_int.mpr rfl)⟩
  · obtain ⟨v, rfl, r1⟩ := reps1 r
    rw [rep_int] at r1; subst r1
    exact .of call_int1 (.inl ⟨_, rfl, RD.val S o (rep_int.mpr rfl)⟩)
  · obtain ⟨v, rfl, r1⟩ := reps1 r
    rw [rep_bl] at r1; subst r1
    exact .of call_int1 (.inr ⟨_, rfl, RD.val S o (rep_int.mpr rfl)⟩)
  · obtain ⟨v, rfl, r1⟩ := reps1 r
    rw [rep_int] at r1; subst r1
    split at o
    · rename_i i hl
      refine .of call_str_int ⟨i, rfl, hl, ?_⟩
      rw [← toS_strInt]
      exact RD.val S o (rep_str.mpr ⟨rfl, okS_int hl⟩)
    · exact False.elim o
  · obtain ⟨v, rfl, r1⟩ := reps1 r
    have r2 := r1
    rw [rep_str] at r1; obtain ⟨rfl, ox⟩ := r1
    exact .of SkE.call_str_str ⟨_, rfl, RD.val S o r2⟩
  · obtain ⟨v, rfl, r1⟩ := reps1 r
    rename_i x
    cases e : seqOf h x with
    | none => rw [e] at o; exact False.elim o
    | some l =>
      rw [e] at o
      obtain ⟨p, vs, rfl, h1, h2, h3, h4⟩ := seqOf_ok S r1 e
      refine .of call_tuple_of ⟨p, vs, rfl, ?_⟩
      by_cases z : ∀ m, x ≠ .tup m
      · exact .inl ⟨h4 z, RD.tup S o h2⟩
      · obtain ⟨m, z⟩ := Classical.not_forall.mp z
        have z := Classical.not_not.mp z
        exact .inr ⟨h3 m z, RD.val S o (rep_tup.mpr ⟨p, vs, rfl, h3 m z, h2⟩)⟩
  · obtain ⟨v, rfl, r1⟩ := reps1 r
    rename_i x
    cases e : seqOf h x with
    | none => rw [e] at o; exact False.elim o
    | some l =>
      rw [e] at o
      obtain ⟨p, vs, rfl, h1, h2, _⟩ := seqOf_ok S r1 e
      exact .of call_list_of ⟨p, vs, rfl, h1, RD.alloc S o h2⟩
  · obtain ⟨v, rfl, r1⟩ := reps1 r
    rename_i x
    cases e : lstOf h x with
    | none => rw [e] at o; exact False.elim o
    | some l =>
      rw [e] at o
      cases e2 : sumD l with
      | none => simp only [Option.bind_some, e2] at o; exact False.elim o
      | some n =>
        simp only [Option.bind_some, e2] at o
        obtain ⟨p, vs, rfl, h1, h2⟩ := lstOf_ok S r1 e
        obtain ⟨ns, rfl, e3⟩ := ints_ok e2 h2
        exact .of (cr_sum hc) ⟨p, ns, rfl, h1, by rw [e3]; exact RD.val S o (rep_int.mpr rfl)⟩
  · obtain ⟨v, w, rfl, r1, r2⟩ := reps2 r
    rw [rep_int] at r1 r2; subst r1 r2
    exact .of (call_max2 hc) ⟨_, _, rfl, RD.val S o (rep_int.mpr rfl)⟩
  · obtain ⟨v, w, rfl, r1, r2⟩ := reps2 r
    rw [rep_int] at r1 r2; subst r1 r2
    exact .of (call_min2 hc) ⟨_, _, rfl, RD.val S o (rep_int.mpr rfl)⟩
  · obtain ⟨v, rfl, r1⟩ := reps1 r
    rw [rep_str] at r1; obtain ⟨rfl, ox⟩ := r1
    exact .of call_ord ⟨_, rfl, rfl, RD.val S o (rep_int.mpr rfl)⟩
  · obtain ⟨v, rfl, r1⟩ := reps1 r
    split at o
    · rename_i l e1
      obtain ⟨a, vs, rfl, ha, h1, h2⟩ := S.lst e1 r1
      split at o
      · rename_i ns e2
        have ev := reps_ints_of e2 h2
        subst ev
        refine .of cr_sortedI ⟨a, ns, rfl, SqL.of h1, fun ns' p hp hs hn => ?_⟩
        rw [sortI_uniq hp hs]
        exact RD.alloc S o (reps_int_map _) p hn
      · split at o
        · rename_i ps e2
          refine .of cr_sortedT' ⟨a, vs, rfl, SqL.of h1, fun hi => ?_⟩
          obtain ⟨k1, k2⟩ := reps_tups_of hi e2 h2
          refine ⟨k2, fun ys p g1 g2 hn => ?_⟩
          refine RD.alloc S o ?_ p hn
          rw [k1, ← sortL_uniq (g1.map (kT X H)) g2]
          exact reps_tup_map fun v hv => let ⟨t, z1, z2, _⟩ := k2 v (g1.mem_iff.mp hv); ⟨t, z1, z2⟩
        · exact False.elim o
    · rename_i l e1
      obtain ⟨a, ps, rfl, ha, h1, h2⟩ := S.dct e1 r1
      split at o
      · rename_i ks e2
        split at o
        · rename_i hk
          refine .of (call_sortedDI hc) ⟨a, ps, ks, rfl, .inl h1, repD_keys e2 h2, hk, fun ys p hp hs hn => ?_⟩
          rw [sortI_uniq hp hs]
          exact RD.alloc S o (reps_int_map _) p hn
        · exact False.elim o
      · exact False.elim o
    · exact False.elim o
  · obtain ⟨v, rfl, r1⟩ := reps1 r
    split at o
    · rename_i l e1
      obtain ⟨a, vs, rfl, ha, h1, h2⟩ := S.lst e1 r1
      split at o
      · rename_i i r' e2
        have ev := reps_ints_of e2 h2
        subst ev
        obtain ⟨m1, m2⟩ := maxL_ok r' i
        refine .of (cr_max hc) ⟨a, i :: r', rfl, SqL.of h1, by simp, fun m k1 k2 => ?_⟩
        have : m = maxL i r' := Int.le_antisymm (m2 m k1) (k2 _ m1)
        rw [this]
        exact RD.val S o (rep_int.mpr rfl)
      · exact False.elim o
    · exact False.elim o
  · obtain ⟨v, rfl, r1⟩ := reps1 r
    split at o
    · rename_i l e1
      obtain ⟨a, vs, rfl, ha, h1, h2⟩ := S.lst e1 r1
      split at o
      · rename_i i r' e2
        have ev := reps_ints_of e2 h2
        subst ev
        obtain ⟨m1, m2⟩ := minL_ok r' i
        refine .of (cr_min hc) ⟨a, i :: r', rfl, SqL.of h1, by simp, fun m k1 k2 => ?_⟩
        have : m = minL i r' := Int.le_antisymm (k2 _ m1) (m2 m k1)
        rw [this]
        exact RD.val S o (rep_int.mpr rfl)
      · exact False.elim o
    · exact False.elim o
  · obtain ⟨v, rfl, r1⟩ := reps1 r
    split at o
    · rename_i l e1
      obtain ⟨a, vs, rfl, ha, h1, h2⟩ := S.lst e1 r1
      split at o
      · rename_i bs e2
        have ev := reps_bools_of e2 h2
        subst ev
        exact .of (cr_all hc) ⟨a, bs, rfl, SqL.of h1, RD.val S o (rep_bl.mpr rfl)⟩
      · exact False.elim o
    · exact False.elim o
  · obtain ⟨v, rfl, r1⟩ := reps1 r
    split at o
    · rename_i l e1
      obtain ⟨a, vs, rfl, ha, h1, h2⟩ := S.lst e1 r1
      split at o
      · rename_i bs e2
        have ev := reps_bools_of e2 h2
        subst ev
        exact .of (cr_any hc) ⟨a, bs, rfl, SqL.of h1, RD.val S o (rep_bl.mpr rfl)⟩
      · exact False.elim o
    · exact False.elim o
  · obtain ⟨v, rfl, r1⟩ := reps1 r
    split at o
    · rename_i l e1
      obtain ⟨a, ps, rfl, ha, h1, h2⟩ := S.dct e1 r1
      exact .of call_dictD ⟨a, ps, rfl, .inl h1, RD.allocD S o h2⟩
    · exact False.elim o
  · obtain ⟨v, rfl, r1⟩ := reps1 r
    rename_i T x
    cases e : tyName h x with
    | none => rw [e] at o; exact False.elim o
    | some t =>
      rw [e] at o
      simp only [ofOpt_some, Res.bind_ok] at o
      split at o
      · rename_i hT
        exact .of call_isi ⟨v, .ty T, .type t, .type T, isaT t T, rfl, .ty T, tyName_ok S r1 e, kit_isa (tyName_mem e) hT, RD.val S o (rep_bl.mpr rfl)⟩
      · exact False.elim o
  · exact False.elim o

/-! ### methods of lists and dicts -/
def AnyM (X : Cx) (id : String) : V → List V → Hp → VK → Prop := fun x xs H Q => ∀ (pins : List (Addr × Obj)) (s : Shared) (σ : L2.St) (v : Value) (us : List Value), Inv X pins σ H s → RelV x v → Vals xs us → wpAny (model X.prog X.w) X.A (call (.builtin id) (v :: us)) (EP X pins σ Q) X.xe s
theorem anyM {id : String} : MtR X id (AnyM X id) := fun pins s σ H x xs v us Q I rx r k => k pins s σ v us I rx r
theorem AnyM.of {id : String} {r : V → List V → Hp → VK → Prop} {x : V} {xs : List V} {Q : VK} (o : MtR X id r) (k : r x xs H Q) : AnyM X id x xs H Q := fun pins s σ v us I rx rv => o pins s σ H x xs v us Q I rx rv k

/-- which built-in function a method is, of which type -/
def bmId : Bm → String
  | .append => "list.append"
  | .lpop => "list.pop"
  | .extend => "list.extend"
  | .count => "list.count"
  | .index => "list.index"
  | .dget => "dict.get"
  | .dpop => "dict.pop"
  | .setdef => "dict.setdefault"
  | .bitlen => "int.bit_length"
  | .join => "str.join"
  | .split => "str.split"
  | .find => "str.find"
  | .rfind => "str.rfind"
  | .tocc => "str.count"
def bmTy : Bm → String
  | .append => "list"
  | .lpop => "list"
  | .extend => "list"
  | .count => "list"
  | .index => "list"
  | .dget => "dict"
  | .dpop => "dict"
  | .setdef => "dict"
  | .bitlen => "int"
  | _ => "str"
theorem ix_seq {n : Nat} {i : Int} {j : Nat} (h : ixN n i = some j) (hn : n ≤ sizeLine) : seqIndex? i n = some j ∧ -(2 ^ 63) ≤ i ∧ i < 2 ^ 63 := by
  have hz := sizeLine_eq
  obtain ⟨h1, h2, h3, h4⟩ := ixN_seq h
  exact ⟨h1, by omega, by omega⟩
theorem ext_l (l : Addr) (items : Array Value) (n : Nat) (b : Addr) (items2 : Array Value) (n2 : Nat) (sl : Array (Option Value)) (q0 : ¬(!items.isEmpty && Builtin.List.listTooLong (items.size + items2.size)) = true) (q1 : items.size ≤ sizeLine) (q2 : items.size + items2.size ≤ sizeLine + 1) :
    Meets (Builtin.«list.extend» ⟨[.ref l, .ref b], []⟩) (fun _ R s => s.heap.get? l = some ⟨.type "list", none, .seq items n, #[]⟩ ∧ s.heap.get? b = some ⟨.type "list", none, .seq items2 n2, sl⟩ ∧ R (.ok (.ret Value.none)) { s with heap := s.heap.update l (Obj.mapSeq fun x => x ++ items2), toks := s.toks }) := by
  refine .of_wp fun prog w A R s h => ?_
  obtain ⟨hp, g, d, tk, os⟩ := s
  obtain ⟨hl, hb, h⟩ := h
  have f1 := AutoSeq1.idx_int
  have f2 := AutoSeq1.sub_tuple_tuple
  have f3 := AutoSeq1.sub_list_list
  have f4 := AutoSeq1.sub_tuple_list
  have f5 := AutoSeq1.sub_list_tuple
  have hz' : (items ++ items2).size ≤ sizeLine + 1 := (Array.size_append (xs := items) (ys := items2)).symm ▸ q2
  wp_walk using (wpAny_updateSeq hl rfl (hz := q1) (_hz' := hz')), wpAny_loadPart' hl, wpAny_loadPart' hb
  exact ⟨_, rfl, h⟩
theorem ext_t (l : Addr) (items : Array Value) (n : Nat) (b : Addr) (items2 : Array Value) (n2 : Nat) (dd : Option Addr) (sl : Array (Option Value)) (q0 : ¬(!items.isEmpty && Builtin.List.listTooLong (items.size + items2.size)) = true) (q1 : items.size ≤ sizeLine) (q2 : items.size + items2.size ≤ sizeLine + 1) :
    Meets (Builtin.«list.extend» ⟨[.ref l, .ref b], []⟩) (fun _ R s => s.heap.get? l = some ⟨.type "list", none, .seq items n, #[]⟩ ∧ s.heap.get? b = some ⟨.type "tuple", dd, .seq items2 n2, sl⟩ ∧ R (.ok (.ret Value.none)) { s with heap := s.heap.update l (Obj.mapSeq fun x => x ++ items2), toks := s.toks }) := by
  refine .of_wp fun prog w A R s h => ?_
  obtain ⟨hp, g, d, tk, os⟩ := s
  obtain ⟨hl, hb, h⟩ := h
  have f1 := AutoSeq1.idx_int
  have f2 := AutoSeq1.sub_tuple_tuple
  have f3 := AutoSeq1.sub_list_list
  have f4 := AutoSeq1.sub_tuple_list
  have f5 := AutoSeq1.sub_list_tuple
  have hz' : (items ++ items2).size ≤ sizeLine + 1 := (Array.size_append (xs := items) (ys := items2)).symm ▸ q2
  wp_walk using (wpAny_updateSeq hl rfl (hz := q1) (_hz' := hz')), wpAny_loadPart' hl, wpAny_loadPart' hb
  exact ⟨_, rfl, h⟩
theorem mt_extendT : MtR X "list.extend" (fun x vs H Q => ∃ l b xs zs, x = .ref l ∧ vs = [.ref b] ∧ H l = some (.lst xs) ∧ (SqL X.K H b zs ∨ SqT X.K H b zs) ∧ xs.length + zs.length ≤ sizeLine ∧ Q .non (upd H l (.lst (xs ++ zs)))) := by
  intro pins s σ H x vs v us Q I rx rv h
  obtain ⟨l, b, xs, zs, rfl, rfl, hH, hB, hz, q⟩ := h
  cases rx
  obtain ⟨u, rfl, ru⟩ := rv.one
  cases ru
  obtain ⟨z, its, n, r, hl, e⟩ := I.lstM hH
  have go : ∀ (its2 : List Value), Vals zs its2 → wpAny (model X.prog X.w) X.A (call (.builtin "list.extend") [.ref l, .ref b]) (EP X pins σ Q) X.xe s = wpAny (model X.prog X.w) X.A (call (.builtin "list.extend") [.ref l, .ref b]) (EP X pins σ Q) X.xe s ∧ its.toArray.size + its2.toArray.size ≤ sizeLine ∧
      ¬ (!its.toArray.isEmpty && Builtin.List.listTooLong (its.toArray.size + its2.toArray.size)) = true ∧ EP X pins σ Q .none { s with heap := s.heap.update l (Obj.mapSeq fun x => x ++ its2.toArray) } := by
    intro its2 r2
    have hsz : its.toArray.size + its2.toArray.size ≤ sizeLine := by
      rw [List.size_toArray, List.size_toArray, ← hl, ← r2.length]
      exact hz
    refine ⟨rfl, hsz, ?_, ?_⟩
    · rw [notLongL hsz, Bool.and_false]
      exact Bool.false_ne_true
    · refine ⟨.non, _, I.lset (its' := its ++ its2) hH e (by simp) (r.append r2) ?_, rfl, q⟩
      rw [List.length_append]
      exact hz
  rcases hB with hB | hB
  · obtain ⟨its2, r2, ⟨o2, n2, ho2, hc2, hd2, hdt2⟩, hz2⟩ := I.list hB
    obtain ⟨_, g1, g2, g3⟩ := go its2 r2
    obtain ⟨c2, d2, dt2, sl2⟩ := o2
    dsimp only at hc2 hd2 hdt2
    subst hc2 hd2 hdt2
    refine call_meets F.slot_list_extend ⟨_, e, rfl⟩ F.entry_list_extend (F.args_list_extend_2 _ _) (ext_l l its.toArray n b its2.toArray n2 sl2 g2 (by omega) (by omega)) ⟨e, ho2, g3⟩
  · obtain ⟨its2, r2, ⟨o2, ho2, hc2, n2, hdt2⟩, hz2⟩ := I.tuple hB
    obtain ⟨_, g1, g2, g3⟩ := go its2 r2
    obtain ⟨c2, d2, dt2, sl2⟩ := o2
    dsimp only at hc2 hdt2
    subst hc2 hdt2
    refine call_meets F.slot_list_extend ⟨_, e, rfl⟩ F.entry_list_extend (F.args_list_extend_2 _ _) (ext_t l its.toArray n b its2.toArray n2 d2 sl2 g2 (by omega) (by omega)) ⟨e, ho2, g3⟩
theorem lmeth_ok {x : D} {m : Bm} {ds : List D} {vx : V} {vs : List V} {Q : VK} (S : Sim X.K G ρ H h) (rx : Rep X.K ρ H x vx) (r : Reps X.K ρ H ds vs) (o : RD X G W σ ρ H Q (lmeth x m ds h)) : AnyM X (bmId m) vx vs H Q := by
  unfold lmeth at o
  split at o
  · split at o
    · rename_i n l e1
      obtain ⟨a, ws, rfl, ha, h1, h2⟩ := S.lst e1 rx
      split at o
      · obtain ⟨v, rfl, r1⟩ := reps1 r
        split at o
        · rename_i hl
          refine .of mt_append ⟨a, ws, v, rfl, rfl, h1, by rw [← h2.length, ← SZ_eq]; exact hl, ?_⟩
          have e := ext_wr (u := HO.lst (ws ++ [v])) S e1 ha
          exact RD.wr S e1 ha o ⟨_, upd_same, Reps.ext e _ _ (h2.app (Reps.cons r1 Reps.nil))⟩ (rep_non.mpr rfl)
        · exact False.elim o
      · rw [Reps] at r; subst r
        split at o
        · rename_i d e2
          have e3 : l[l.length - 1]? = some d := by rw [← List.getLast?_eq_getElem?]; exact e2
          obtain ⟨v, e4, r4⟩ := h2.get e3
          have e := ext_wr (u := HO.lst ws.dropLast) S e1 ha
          refine .of mt_pop ⟨a, ws, v, rfl, rfl, h1, by rw [← h2.length]; exact e4, ?_⟩
          refine RD.wr S e1 ha o ⟨_, upd_same, Reps.ext e _ _ ?_⟩ r4
          rw [List.dropLast_eq_take, List.dropLast_eq_take, h2.length]
          exact h2.take _
        · exact False.elim o
      · rename_i i
        obtain ⟨v, rfl, r1⟩ := reps1 r
        rw [rep_int] at r1; subst r1
        split at o
        · rename_i j e2
          split at o
          · rename_i d e3
            obtain ⟨v, e4, r4⟩ := h2.get e3
            have e := ext_wr (u := HO.lst (ws.eraseIdx j)) S e1 ha
            have hz : ws.length ≤ sizeLine ∨ True := .inr trivial
            intro pins s σ' v0 us I rv0 rvs
            have hzz := (I.lstM h1).1
            rw [h2.length] at e2
            obtain ⟨q1, q2, q3⟩ := ix_seq e2 hzz
            refine mt_popAt pins s σ' H (.ref a) [.int i] v0 us Q I rv0 rvs ⟨a, ws, i, j, v, rfl, rfl, h1, q2, q3, q1, e4, ?_⟩
            refine RD.wr S e1 ha o ⟨_, upd_same, Reps.ext e _ _ ?_⟩ r4
            rw [List.eraseIdx_eq_take_drop_succ, List.eraseIdx_eq_take_drop_succ]
            exact (h2.take _).app (h2.drop _)
          · exact False.elim o
        · exact False.elim o
      · obtain ⟨v, rfl, r1⟩ := reps1 r
        split at o
        · rename_i l2 e2
          obtain ⟨p, us, rfl, h3, h4, _⟩ := seqOf_ok S r1 e2
          split at o
          · rename_i hl
            have e := ext_wr (u := HO.lst (ws ++ us)) S e1 ha
            refine .of mt_extendT ⟨a, p, ws, us, rfl, rfl, h1, h3, by rw [← h2.length, ← h4.length, ← SZ_eq]; omega, ?_⟩
            exact RD.wr S e1 ha o ⟨_, upd_same, Reps.ext e _ _ (h2.app h4)⟩ (rep_non.mpr rfl)
          · exact False.elim o
        · exact False.elim o
      · rename_i k
        obtain ⟨v, rfl, r1⟩ := reps1 r
        rw [rep_int] at r1; subst r1
        split at o
        · rename_i ns e2
          have := reps_ints_of e2 h2
          subst this
          exact .of mt_lcount ⟨a, ns, k, rfl, rfl, SqL.of h1, RD.val S o (rep_int.mpr rfl)⟩
        · exact False.elim o
      · exact False.elim o
    · exact False.elim o
  · exact False.elim o

/-- what a dict's method does, by values -/
theorem dmeth_ok {x : D} {m : Bm} {ds : List D} {vx : V} {vs : List V} {Q : VK} (hu : X.A.units + 1 < cLine) (S : Sim X.K G ρ H h) (rx : Rep X.K ρ H x vx) (r : Reps X.K ρ H ds vs) (o : RD X G W σ ρ H Q (dmeth x m ds h)) :
    AnyM X (bmId m) vx vs H Q := by
  unfold dmeth at o
  split at o
  · split at o
    · rename_i n kvs e1
      obtain ⟨a, ps, rfl, ha, h1, h2⟩ := S.dct e1 rx
      split at o
      · rename_i k d
        obtain ⟨v, w, rfl, r1, r2⟩ := reps2 r
        split at o
        · rename_i hk
          obtain ⟨κ, hκ, rfl⟩ := repK_of hk r1
          have q : Q ((valV ps κ).getD w) H := by
            cases e3 : dget kvs k with
            | none => rw [e3] at o; rw [(h2.get hκ).2 e3]; exact RD.val S o r2
            | some z => rw [e3] at o; obtain ⟨u, e4, r4⟩ := (h2.get hκ).1 z e3; rw [e4]; exact RD.val S o r4
          intro pins s σ v us I rx rv
          obtain rfl : v = Value.ref a := rx
          obtain ⟨u1, u2, rfl, q1, q2⟩ := vals2 rv
          exact d_get2 hu I (DGet.k h1) q1 q2 fun w' s' I' rw' => ⟨_, H, I', rw', q⟩
        · exact False.elim o
      · rename_i k
        obtain ⟨v, rfl, r1⟩ := reps1 r
        split at o
        · rename_i hk
          obtain ⟨κ, hκ, rfl⟩ := repK_of hk r1
          have q : Q ((valV ps κ).getD .non) H := by
            cases e3 : dget kvs k with
            | none => rw [e3] at o; rw [(h2.get hκ).2 e3]; exact RD.val S o (rep_non.mpr rfl)
            | some z => rw [e3] at o; obtain ⟨u, e4, r4⟩ := (h2.get hκ).1 z e3; rw [e4]; exact RD.val S o r4
          intro pins s σ v us I rx rv
          obtain rfl : v = Value.ref a := rx
          obtain ⟨u1, rfl, q1⟩ := vals1 rv
          exact d_get1 hu I (DGet.k h1) q1 fun w' s' I' rw' => ⟨_, H, I', rw', q⟩
        · exact False.elim o
      · rename_i k
        obtain ⟨v, rfl, r1⟩ := reps1 r
        split at o
        · rename_i hk
          obtain ⟨κ, hκ, rfl⟩ := repK_of hk r1
          cases e3 : dget kvs k with
          | none => rw [e3] at o; exact False.elim o
          | some z =>
            rw [e3] at o
            obtain ⟨u, e4, r4⟩ := (h2.get hκ).1 z e3
            have q : Q u (upd H a (.dK (dropK ps κ))) := RD.wr S e1 ha o ⟨_, upd_same, (h2.drop hκ).ext (ext_wr S e1 ha)⟩ r4
            intro pins s σ v us I rx rv
            obtain rfl : v = Value.ref a := rx
            obtain ⟨u1, rfl, q1⟩ := vals1 rv
            exact d_pop I h1 q1 e4 (.inl rfl) fun w' s' I' rw' => ⟨_, _, I', rw', q⟩
        · exact False.elim o
      · rename_i k d
        obtain ⟨v, w, rfl, r1, r2⟩ := reps2 r
        split at o
        · rename_i hk
          obtain ⟨κ, hκ, rfl⟩ := repK_of hk r1
          cases e3 : dget kvs k with
          | none =>
            rw [e3] at o
            have e4 := (h2.get hκ).2 e3
            have q : Q w (upd H a (.dK (dropK ps κ))) := RD.wr S e1 ha o ⟨_, upd_same, (h2.drop hκ).ext (ext_wr S e1 ha)⟩ r2
            have hd : dropK ps κ = ps := dropK_no (valV_not e4)
            have q : Q w H := by
              rw [hd] at q
              have eH : upd H a (.dK ps) = H := by
                funext b
                by_cases z : b = a
                · subst z; rw [upd_same, h1]
                · rw [upd_ne z]
              rw [eH] at q
              exact q
            intro pins s σ v us I rx rv
            obtain rfl : v = Value.ref a := rx
            obtain ⟨u1, u2, rfl, q1, q2⟩ := vals2 rv
            exact d_popD I h1 q1 e4 fun s' I' => ⟨w, H, I', q2, q⟩
          | some z =>
            rw [e3] at o
            obtain ⟨u, e4, r4⟩ := (h2.get hκ).1 z e3
            have q : Q u (upd H a (.dK (dropK ps κ))) := RD.wr S e1 ha o ⟨_, upd_same, (h2.drop hκ).ext (ext_wr S e1 ha)⟩ r4
            intro pins s σ v us I rx rv
            obtain rfl : v = Value.ref a := rx
            obtain ⟨u1, u2, rfl, q1, q2⟩ := vals2 rv
            exact d_pop I h1 q1 e4 (.inr ⟨_, rfl⟩) fun w' s' I' rw' => ⟨_, _, I', rw', q⟩
        · exact False.elim o
      · exact False.elim o
    · exact False.elim o
  · exact False.elim o
theorem imeth_ok {x : D} {m : Bm} {ds : List D} {vx : V} {vs : List V} {Q : VK} (S : Sim X.K G ρ H h) (rx : Rep X.K ρ H x vx) (r : Reps X.K ρ H ds vs) (o : RD X G W σ ρ H Q (imeth x m ds h)) : AnyM X (bmId m) vx vs H Q := by
  unfold imeth at o
  split at o
  · split at o
    · rw [rep_int] at rx; subst rx
      rw [Reps] at r; subst r
      intro pins s σ' v us I rv rvs
      obtain ⟨t, rfl⟩ := rv
      cases rvs
      exact call_int_bit_length ⟨.int (bitlen _), H, I.tok _, ⟨_, rfl⟩, RD.val S o (rep_int.mpr rfl)⟩
    · exact False.elim o
  · exact False.elim o
theorem reps_strs_of : ∀ {l : List D} {vs : List V} {ys : List Nm}, strsD l = some ys → Reps X.K ρ H l vs → vs = (ys.map toS).map V.str ∧ ∀ y ∈ ys, okS y
  | [], vs, ys, e, r => by
    rw [Reps] at r; subst r
    cases e
    exact ⟨rfl, fun _ h => by cases h⟩
  | d :: l, vs, ys, e, r => by
    rw [Reps] at r
    obtain ⟨v, ws, rfl, r1, r2⟩ := r
    unfold strsD at e
    split at e
    · rename_i z
      cases z
    · rename_i s r z
      cases z
      obtain ⟨t, e1, rfl⟩ := Option.map_eq_some_iff.mp e
      obtain ⟨h1, h2⟩ := reps_strs_of e1 r2
      obtain ⟨h3, h4⟩ := rep_str.mp r1
      subst h1 h3
      exact ⟨rfl, fun y hy => by
        rcases List.mem_cons.mp hy with z | z
        · subst z; exact h4
        · exact h2 y z⟩
    · cases e
theorem joinN_toS (s : Nm) : ∀ ys : List Nm, Str.join (toS s) (ys.map toS) = toS (joinN s ys)
  | [] => rfl
  | [x] => rfl
  | x :: y :: r => by
    show toS x ++ toS s ++ Str.join (toS s) ((y :: r).map toS) = toS (x ++ s ++ joinN s (y :: r))
    rw [joinN_toS s (y :: r), toS_app, toS_app]
theorem joinN_len (s : Nm) : ∀ ys : List Nm, (joinN s ys).length ≤ (ys.map (·.length)).sum + ys.length * s.length
  | [] => Nat.zero_le _
  | [x] => by simp [joinN]
  | x :: y :: r => by
    have h := joinN_len s (y :: r)
    simp only [joinN, List.length_append, List.map_cons, List.sum_cons, List.length_cons, Nat.succ_mul] at h ⊢
    omega
theorem joinN_mem {s : Nm} {c : Nat} : ∀ {ys : List Nm}, c ∈ joinN s ys → c ∈ s ∨ ∃ y ∈ ys, c ∈ y
  | [], h => by cases h
  | [x], h => .inr ⟨x, List.mem_singleton_self x, h⟩
  | x :: y :: r, h => by
    simp only [joinN, List.mem_append] at h
    rcases h with (h | h) | h
    · exact .inr ⟨x, List.mem_cons_self, h⟩
    · exact .inl h
    · rcases joinN_mem h with z | ⟨w, z1, z2⟩
      · exact .inl z
      · exact .inr ⟨w, List.mem_cons_of_mem _ z1, z2⟩
theorem tmeth_ok {x : D} {m : Bm} {ds : List D} {vx : V} {vs : List V} {Q : VK} (S : Sim X.K G ρ H h) (rx : Rep X.K ρ H x vx) (r : Reps X.K ρ H ds vs) (o : RD X G W σ ρ H Q (tmeth x m ds h)) : AnyM X (bmId m) vx vs H Q := by
  unfold tmeth at o
  split at o
  · obtain ⟨rfl, ox⟩ := rep_str.mp rx
    split at o
    · obtain ⟨v, rfl, r1⟩ := reps1 r
      split at o
      · rename_i l e1
        obtain ⟨p, us, rfl, h3, h4, _⟩ := seqOf_ok S r1 e1
        split at o
        · rename_i ys e2
          obtain ⟨rfl, oy⟩ := reps_strs_of e2 h4
          split at o
          · rename_i hz
            refine .of mt_join ⟨_, p, ys.map toS, rfl, rfl, h3, ?_, ?_⟩
            · rw [List.length_map, toS_len, List.map_map]
              rw [show ((fun x : Str => x.length) ∘ toS) = fun x => x.length from funext fun x => toS_len x]
              exact hz
            · show Q (.str (Builtin.Str.glued _ _)) H
              rw [PySem.StrLaws.glued_eq_join, joinN_toS]
              refine RD.val S o (rep_str.mpr ⟨rfl, ?_, fun c hc => ?_⟩)
              · rw [← SZ_eq]
                exact Nat.le_trans (joinN_len _ _) hz
              · rcases joinN_mem hc with z | ⟨w, z1, z2⟩
                · exact ox.2 c z
                · exact (oy w z1).2 c z2
          · exact False.elim o
        · exact False.elim o
      · exact False.elim o
    · exact False.elim o
  · exact False.elim o
theorem bmeth_ok {x : D} {m : Bm} {ds : List D} {vx : V} {vs : List V} {Q : VK} (hu : X.A.units + 1 < cLine) (S : Sim X.K G ρ H h) (rx : Rep X.K ρ H x vx) (r : Reps X.K ρ H ds vs) (o : RD X G W σ ρ H Q (bmeth x m ds h)) : AnyM X (bmId m) vx vs H Q := by
  unfold bmeth at o
  split at o
  · exact lmeth_ok S rx r o
  · exact lmeth_ok S rx r o
  · exact lmeth_ok S rx r o
  · exact lmeth_ok S rx r o
  · exact dmeth_ok hu S rx r o
  · exact dmeth_ok hu S rx r o
  · exact imeth_ok S rx r o
  · exact tmeth_ok S rx r o
  · exact False.elim o
end
end Z

/-! ZS: sorted(set(xs)), xs ints. -/
namespace Z
open PySem PySem.Spec PyProof.Rows L2
section
variable {P : Program} {w : World} {A : Around} {E : Value → Shared → Prop} {s : Shared}
/-- a new set -/
abbrev nS (w : World) : Obj := ⟨.type "set", none, .set #[] 0 (.fresh 0 0 (!w.params.followText "set-order")), #[]⟩
theorem set_of_list {l : Addr} {items : Array Value} (ns : List Int) {Q : Value → Shared → Prop} (hh : A.handled = none) (hl : s.heap.IsList l items) (hit : IntsAre items.toList ns) (hb : ns.length + 1 < scanBound)
    (h : ∀ (h' : Heap) (tk c : Nat), SetR w h' s.heap.objs.size (fun j => decide (j ∈ ns)) c → c ≤ ns.length → (∀ b o, s.heap.get? b = some o → h'.get? b = some o) → Q (.ref s.heap.objs.size) { s with heap := h', toks := tk }) :
    wpAny (model P w) A (call (.type "set") [.ref l]) Q E s := by
  have len : items.size = ns.length := by simpa using IntsAre.length hit
  obtain ⟨c, tl, hmro⟩ := F.called_set.mro
  have u1 := F.called_set.made
  have u2 := F.called_set.sub
  have u3 := F.called_set.notType
  have u4 := F.called_set.canCreate
  have u5 := F.typeCall_set_1 (.ref l)
  refine wpAny_call (codeAny_of_tree (wpAny_pure ?_))
  refine ⟨Code.quiet_builtin _ (by decide +kernel), codeAny_builtin F.entry_type_call ?_⟩
  rw [Around.under_plain (weight_type_call_type "set" [.ref l] []) rfl]
  repeat (any_goals (first | assumption | wp_step))
  refine codeAny_mono (code_set_led1 (.ref l) (E := E) (Q₁ := fun obj t => obj = .ref s.heap.objs.size ∧ t = { s with heap := s.heap.push (nS w) }) ⟨rfl, rfl⟩) fun r t hr => ?_
  cases r with
  | error e => exact hr
  | ok fl =>
    cases fl with
    | ret obj =>
      obtain ⟨rfl, rfl⟩ := hr
      have at0 : (s.heap.push (nS w)).get? s.heap.objs.size = some (nS w) := Heap.get?_push_size _ rfl
      have ty0 : Shared.TypeIs { s with heap := s.heap.push (nS w) } (.ref s.heap.objs.size) "set" := ⟨_, at0, rfl⟩
      have v1 := F.called_set.init.lookup
      have v2 := F.called_set.init.bind (.ref s.heap.objs.size)
      repeat (any_goals (first | assumption | wp_step))
      refine codeAny_mono (codeAny_call_builtin (R := wants (fun r t => r = .none ∧ ∃ h' tk c, t = { s with heap := h', toks := tk } ∧ SetR w h' s.heap.objs.size (fun j => decide (j ∈ ns)) c ∧ c ≤ ns.length ∧ (∀ b o, s.heap.get? b = some o → h'.get? b = some o)) E)
        F.called_set.init.plain F.entry_set_init (check_set_init_1 ty0 ?_)) fun r2 t2 hr2 => ?_
      · obtain ⟨⟨oc, od, odt, os⟩, ho, q1, nl, q2⟩ := hl
        dsimp only at q1 q2
        subst q1 q2
        have ho1 : (s.heap.push (nS w)).get? l = some ⟨.type "list", od, .seq items nl, os⟩ := Heap.get?_push_of_some _ ho
        have w1 := F.sub_list_set
        have w2 := F.sub_list_frozenset
        have w3 : (Value.type "list" == Value.type "dict") = false := by decide
        have isl : (s.heap.push (nS w)).IsList l items := ⟨_, ho1, rfl, nl, rfl⟩
        unfold Builtin.«set.__init__» noKeywords Builtin.Frozenset.updateFrom
        generalize hPI : pyIter = PI
        wp_walk
        subst hPI
        refine wpAny_pyIter_list isl (wpAny_bind (wpAny_runValue ?_))
        have lt : l < s.heap.objs.size := Heap.lt_size ho
        have sz : (s.heap.push (nS w)).objs.size = s.heap.objs.size + 1 := Heap.size_push ..
        have ne : l ≠ (s.heap.push (nS w)).objs.size := fun z => by rw [Heap.size_push] at z; exact absurd lt (by rw [z]; exact Nat.not_lt.mpr (Nat.le_succ _))
        have nin : s.heap.objs.size ∉ [(s.heap.push (nS w)).objs.size, l] := by
          intro z
          rcases List.mem_cons.mp z with z | z
          · rw [Heap.size_push] at z
            exact Nat.ne_of_lt (Nat.lt_succ_self _) z
          · have z := List.mem_singleton.mp z
            rw [← z] at lt
            exact Nat.lt_irrefl _ lt
        have hd3 : A.in1.in1.in1.handled = none := by simp [hh]
        have val : ∀ (i : Nat) (v : Value), items[i]? = some v → ∃ k t, ns[i]? = some k ∧ v = .int k t := fun i v hv => by
          have hi : i < ns.length := by
            rw [← len]
            exact (Array.getElem?_eq_some_iff.mp hv).1
          obtain ⟨t, e⟩ := PyProof.Rows.IntsAre.int_at hit i v (by simpa using hv)
          refine ⟨ns[i], t, List.getElem?_eq_getElem hi, ?_⟩
          rw [e]
          simp [hi]
        refine set_update_ints ((Walks.list hd3 _ l ne items).toS) s.heap.objs.size nin ns len hb val (items.size - 0) 0 _ (by omega) (Nat.zero_le _) ⟨⟨_, Heap.get?_push_size _ rfl, rfl, rfl⟩, (isl.push _)⟩ ?hS0 ?hR
        case hS0 => exact ⟨0, Nat.le_refl 0, setR_new_at (Heap.get?_push_of_some _ at0)⟩
        case hR =>
          intro s2 c2 hm hc2 hS2
          obtain ⟨h2, g2, d2, k2, o2⟩ := s2
          have eg : g2 = s.gens := hm.gens
          have ed : d2 = s.drawn := hm.drawn
          have eo : o2 = s.os := hm.os
          subst eg; subst ed; subst eo
          show wpAny _ _ _ _ _ _
          refine wpAny_pure (show wpAny _ _ (ret Value.none) _ _ _ from wpAny_pure ⟨rfl, h2, k2, c2, rfl, hS2, by omega, fun b o e => ?_⟩)
          have b0 : b < s.heap.objs.size := Heap.lt_size e
          refine hm.heap b o ?_ (Heap.get?_push_of_some _ (Heap.get?_push_of_some _ e))
          intro z
          rcases List.mem_cons.mp z with z | z
          · rw [z] at b0
            exact Nat.lt_irrefl _ b0
          · have z := List.mem_singleton.mp z
            rw [z, Heap.size_push] at b0
            exact Nat.lt_irrefl _ (Nat.lt_trans (Nat.lt_succ_self _) b0)
      · cases r2 with
        | error e => exact hr2
        | ok fl2 =>
          cases fl2 with
          | ret r =>
            obtain ⟨rfl, h', tk, c', rfl, k1, k2, k3⟩ := hr2
            repeat (any_goals (first | assumption | wp_step))
            exact h _ _ _ k1 k2 k3
          | _ => exact hr2.elim
    | _ => exact hr.elim
end
section
variable {X : Cx} {G : Gt} {W : WX} {σ : L2.St} {ρ : List Addr} {H : Hp} {h : Hh}
/-- sorted of the set of xs, from where the argument is a value -/
theorem sset_go {d : D} {v : V} {u : Value} {Q : VK} {pins : List (Addr × Obj)} {s : Shared} (hc : X.calm = true) (I : Inv X pins σ H s) (S : Sim X.K G ρ H h) (rd : Rep X.K ρ H d v) (ru : RelV v u) (o : RD X G W σ ρ H Q (ssetop d h)) :
    wpAny (model X.prog X.w) X.A (call (.type "set") [u]) (fun z t => wpAny (model X.prog X.w) X.A (call (.builtin "sorted") [z]) (EP X pins σ Q) X.xe t) X.xe s := by
  unfold ssetop at o
  split at o
  · rename_i l e1
    split at o
    · rename_i ns e2
      split at o
      · rename_i hn
        obtain ⟨p, vs, rfl, hs, r2, _⟩ := seqOf_ok S rd e1
        have ev := reps_ints_of e2 r2
        subst ev
        obtain rfl : u = Value.ref p := ru
        have hd := I.ok.hd hc
        have fin : ∀ (h' : Heap) (tk c : Nat), SetR X.w h' s.heap.objs.size (fun j => decide (j ∈ ns)) c → c ≤ ns.length → (∀ b o, s.heap.get? b = some o → h'.get? b = some o) →
            wpAny (model X.prog X.w) X.A (call (.builtin "sorted") [.ref s.heap.objs.size]) (EP X pins σ Q) X.xe { s with heap := h', toks := tk } := by
          intro h' tk c R1 hcn k
          refine sorted_set (s := { s with heap := h', toks := tk }) R1 hd (by omega) fun s' q out c2 ks k2 g o2 hp hg hi hs hm hl => ?_
          have e3 : ks = sortU ns := asc_uniq hs (sortU_pw ns) fun j => by
            rw [hm j, sortU_mem]
            simp
          have hlen : (ks.map V.int).length ≤ sizeLine := by rw [List.length_map, hl, sizeLine_eq]; omega
          have hlt : s.heap.objs.size ≤ q := Nat.le_trans (Nat.le_of_lt R1.lt) hp
          have hn : H q = none := I.hok.fresh hlt
          have kk : ∀ b o, s.heap.get? b = some o → s'.heap.get? b = some o := fun b o e => k2 b o (k b o e)
          have J : Inv X pins σ (upd H q (.lst (ks.map V.int))) { s with heap := s'.heap, gens := s'.gens, drawn := s'.drawn, toks := s'.toks } :=
            I.call (ch := []) (Un.laid kk hlt hn) (I.hok.laid kk hlt ⟨hlen, out.toList, c2, vals_of_ints hi, hg⟩) (by rw [g]; exact I.bare) (fun _ z => nomatch z)
          have e : s' = { s with heap := s'.heap, gens := s'.gens, drawn := s'.drawn, toks := s'.toks } := by
            cases s'
            cases s
            cases o2
            rfl
          rw [e]
          refine ⟨.ref q, _, J, rfl, ?_⟩
          subst e3
          exact RD.alloc S o (reps_int_map _) q hn
        rcases hs with hs | hs
        · obtain ⟨its, rv, pl, hz⟩ := I.list hs
          exact set_of_list ns hd pl.isList (by simpa using ints_of_vals rv) (by unfold scanBound; omega) fin
        · obtain ⟨its, rv, pt, hz⟩ := I.tuple hs
          exact call_set_tupI ns hd pt (by simpa using ints_of_vals rv) (by unfold scanBound; omega) fin
      · exact False.elim o
    · exact False.elim o
  · exact False.elim o
end
end Z

/-! ZT: tuple(zip(xs, ys)) of two lists. -/
namespace Z
open PySem PySem.Spec PyProof.Rows L2
section
variable {prog : Program} {w : World} {A : Around} {E : Value → Shared → Prop} {s : Shared}
/-- a zip of two lists behind i turns; S: an object apart -/
structure ZipAt (S z TI TO i1 i2 l1 l2 : Addr) (xs ys : Array Value) (i : Nat) (h : Heap) : Prop where
  ti : IsPair h TI (.ref i1) (.ref i2)
  h1 : h.IsListIter i1 l1 i
  h2 : h.IsListIter i2 l2 i
  hl1 : h.IsList l1 xs
  hl2 : h.IsList l2 ys
  st : (IsZip h z TI TO .none ∧ ∃ a b, IsPair h TO a b) ∨ ∃ T f oT, IsZipHeld h z TI TO T f ∧ h.get? T = some oT ∧ T ≠ z ∧ T ≠ i1 ∧ T ≠ i2 ∧ T ≠ S
structure Off (S z TI TO i1 i2 l1 l2 : Addr) : Prop where
  z : z ≠ S
  ti : TI ≠ S
  to : TO ≠ S
  i1 : i1 ≠ S
  i2 : i2 ≠ S
  l1 : l1 ≠ S
  l2 : l2 ≠ S
variable {S z TI TO i1 i2 l1 l2 : Addr} {xs ys : Array Value} {i : Nat} {h h' : Heap}
theorem ZipAt.type {s : Shared} (x : ZipAt S z TI TO i1 i2 l1 l2 xs ys i s.heap) : s.TypeIs (.ref z) "zip" := by
  rcases x.st with ⟨a, _⟩ | ⟨_, _, _, a, _⟩
  · exact ⟨_, a, rfl⟩
  · exact ⟨_, a, rfl⟩
theorem ZipAt.keep (x : ZipAt S z TI TO i1 i2 l1 l2 xs ys i h) (o : Off S z TI TO i1 i2 l1 l2) (k : ∀ b u, b ≠ S → h.get? b = some u → h'.get? b = some u) : ZipAt S z TI TO i1 i2 l1 l2 xs ys i h' where
  ti := k _ _ o.ti x.ti
  h1 := x.h1.at fun u e => k _ u o.i1 e
  h2 := x.h2.at fun u e => k _ u o.i2 e
  hl1 := x.hl1.at fun u e => k _ u o.l1 e
  hl2 := x.hl2.at fun u e => k _ u o.l2 e
  st := by
    rcases x.st with ⟨a, p, q, b⟩ | ⟨T, f, oT, a, b, c, d, e, g⟩
    · exact .inl ⟨k _ _ o.z a, p, q, k _ _ o.to b⟩
    · exact .inr ⟨T, f, oT, k _ _ o.z a, k _ _ g b, c, d, e, g⟩
theorem zip_item {Q : Option Value → Shared → Prop} (D : ZipApart z TI TO i1 i2 l1 l2) (x : ZipAt S z TI TO i1 i2 l1 l2 xs ys i s.heap) (hS : S < s.heap.objs.size) {a b : Value} (ex : xs[i]? = some a) (ey : ys[i]? = some b)
    (hQ : ∀ h', ZipAt S z TI TO i1 i2 l1 l2 xs ys (i + 1) h' → IsPair h' s.heap.objs.size a b → h'.objs.size = s.heap.objs.size + 1 → (∀ c o, c ≠ z → c ≠ TO → c ≠ i1 → c ≠ i2 → s.heap.get? c = some o → h'.get? c = some o) → Q (some (.ref s.heap.objs.size)) { s with heap := h' }) :
    wpAny (model prog w) A (pyNext (.ref z)) Q E s := by
  obtain ⟨hTI, h1, h2, hl1, hl2, hz⟩ := x
  have lt : ∀ {c o}, s.heap.get? c = some o → s.heap.objs.size ≠ c := fun e => Nat.ne_of_gt (Heap.lt_size e)
  have n1 : s.heap.objs.size ≠ i1 := let ⟨_, e, _⟩ := h1; lt e
  have n2 : s.heap.objs.size ≠ i2 := let ⟨_, e, _⟩ := h2; lt e
  rcases hz with ⟨hz, p, q, hTO⟩ | ⟨T, f, oT, hz, hT, r1, r2, r3, r4⟩
  · refine wpAny_pyNext_zip_item D hz hTI hTO h1 h2 hl1 hl2 ex ey fun h' a1 a2 a3 a4 a5 a6 hk => ?_
    exact hQ h' ⟨hk _ _ D.TIz D.TITO D.TIi1 D.TIi2 hTI, a3, a4, hl1.at fun o e => hk _ o D.l1z D.l1TO D.l1i1 D.l1i2 e, hl2.at fun o e => hk _ o D.l2z D.l2TO D.l2i1 D.l2i2 e,
        .inr ⟨s.heap.objs.size, false, _, a1, a5, lt hz, n1, n2, Nat.ne_of_gt hS⟩⟩ a5 a6 hk
  · refine wpAny_pyNext_zip_item_held D hz hT hTI h1 h2 hl1 hl2 ex ey fun h' a1 a3 a4 a5 a6 hk => ?_
    exact hQ h' ⟨hk _ _ D.TIz D.TIi1 D.TIi2 hTI, a3, a4, hl1.at fun o e => hk _ o D.l1z D.l1i1 D.l1i2 e, hl2.at fun o e => hk _ o D.l2z D.l2i1 D.l2i2 e,
        .inr ⟨T, true, oT, a1, hk _ _ r1 r2 r3 hT, r1, r2, r3, r4⟩⟩ a5 a6 fun c o c1 _ c3 c4 e => hk c o c1 c3 c4 e
theorem zip_end {Q : Option Value → Shared → Prop} (hh : A.handled = none) (D : ZipApart z TI TO i1 i2 l1 l2) (x : ZipAt S z TI TO i1 i2 l1 l2 xs ys i s.heap) (hend : xs[i]? = none ∨ ys[i]? = none)
    (hQ : ∀ h', (∀ c o, c ≠ z → c ≠ TO → c ≠ i1 → c ≠ i2 → s.heap.get? c = some o → h'.get? c = some o) → Q none { s with heap := h' }) : wpAny (model prog w) A (pyNext (.ref z)) Q E s := by
  obtain ⟨hTI, h1, h2, hl1, hl2, hz⟩ := x
  rcases hz with ⟨hz, p, q, hTO⟩ | ⟨T, f, oT, hz, hT, r1, r2, r3, r4⟩
  · exact wpAny_pyNext_zip_end hh D hz hTI hTO h1 h2 hl1 hl2 hend fun h' hk => hQ h' hk
  · exact wpAny_pyNext_zip_end_held hh D hz hT hTI h1 h2 hl1 hl2 hend fun h' hk => hQ h' fun c o c1 _ c3 c4 e => hk c o c1 c3 c4 e
/-- the pairs that were given out -/
structure PairsAt (base : Nat) (xs ys : Array Value) (Ts : List Addr) (h : Heap) : Prop where
  nd : Ts.Nodup
  ge : ∀ T ∈ Ts, base ≤ T ∧ T < h.objs.size
  pr : ∀ (j : Nat) (T : Addr), Ts[j]? = some T → ∃ a b, xs[j]? = some a ∧ ys[j]? = some b ∧ IsPair h T a b
abbrev lsO (vs : Array Value) (c : Nat) : Obj := { cls := .type "list", dict := none, data := .seq vs c, slots := #[] }
theorem ext_zip {R : Result → Shared → Prop} (hh : A.in1.handled = none) (D : ZipApart z TI TO i1 i2 l1 l2) (o : Off S z TI TO i1 i2 l1 l2) (res : Value) (base : Nat) (hlen : xs.size = ys.size) (hn : xs.size ≤ sizeLine)
    (hb : S < base ∧ z < base ∧ TO < base ∧ i1 < base ∧ i2 < base) :
    ∀ (k i : Nat) (hp : Heap) (Ts : List Addr) (c : Nat), xs.size - i = k → i ≤ xs.size → ZipAt S z TI TO i1 i2 l1 l2 xs ys i hp → hp.get? S = some (lsO (Ts.map Value.ref).toArray c) → PairsAt base xs ys Ts hp → Ts.length = i → base ≤ hp.objs.size →
    (∀ (h' : Heap) (Ts' : List Addr) (c' : Nat), PairsAt base xs ys Ts' h' → Ts'.length = xs.size → h'.get? S = some (lsO (Ts'.map Value.ref).toArray c') → (∀ b u, b ≠ S → b ≠ z → b ≠ TO → b ≠ i1 → b ≠ i2 → hp.get? b = some u → h'.get? b = some u) → R (.ok (.ret res)) { s with heap := h' }) →
    codeAny (model prog w) A (.builtin "list.extend.loop" ⟨[.ref S, .ref z, res], []⟩) R { s with heap := hp } := by
  have ne : ∀ {b T : Addr}, b < base → base ≤ T → T ≠ b := fun h1 h2 => Nat.ne_of_gt (Nat.lt_of_lt_of_le h1 h2)
  intro k
  induction k with
  | zero =>
    intro i hp Ts c hk hi x hS P hl hbp hR
    have hin : i = xs.size := by omega
    subst hin
    refine codeAny_builtin F.entry_extend_loop ?_
    rw [Around.under_plainId F.plain_extend_loop _]
    show wpAny _ A.in1 (pyNext (.ref z) >>= _) _ _ _
    refine wpAny_bind (zip_end (s := { s with heap := hp }) hh D x (.inl (Array.getElem?_eq_none (Nat.le_refl _))) fun h' hkp => ?_)
    refine wpAny_pure ?_
    refine hR h' Ts c ⟨P.nd, fun T hT => ⟨(P.ge T hT).1, ?_⟩, fun j T e => ?_⟩ hl (hkp S _ o.z.symm o.to.symm o.i1.symm o.i2.symm hS) fun b u _ b2 b3 b4 b5 e => hkp b u b2 b3 b4 b5 e
    · obtain ⟨j, e⟩ := List.getElem?_of_mem hT
      obtain ⟨p, q, _, _, e3⟩ := P.pr j T e
      have := (P.ge T hT).1
      exact Heap.lt_size (hkp T _ (ne hb.2.1 this) (ne hb.2.2.1 this) (ne hb.2.2.2.1 this) (ne hb.2.2.2.2 this) e3)
    · obtain ⟨p, q, e1, e2, e3⟩ := P.pr j T e
      have := (P.ge T (List.mem_of_getElem? e)).1
      exact ⟨p, q, e1, e2, hkp T _ (ne hb.2.1 this) (ne hb.2.2.1 this) (ne hb.2.2.2.1 this) (ne hb.2.2.2.2 this) e3⟩
  | succ k ih =>
    intro i hp Ts c hk hi x hS P hl hbp hR
    have hlt : i < xs.size := by omega
    refine codeAny_builtin F.entry_extend_loop ?_
    rw [Around.under_plainId F.plain_extend_loop _]
    show wpAny _ A.in1 (pyNext (.ref z) >>= _) _ _ _
    refine wpAny_bind (zip_item (s := { s with heap := hp }) D x (Heap.lt_size hS) (Array.getElem?_eq_getElem hlt) (Array.getElem?_eq_getElem (hlen ▸ hlt)) fun h' x' hpr hsz hkp => ?_)
    have hS' := hkp S _ o.z.symm o.to.symm o.i1.symm o.i2.symm hS
    show wpAny _ A.in1 (updateSeq S (·.push (.ref hp.objs.size)) >>= _) _ _ _
    refine wpAny_bind ?_
    have oth : ∀ b u, b ≠ S → h'.get? b = some u → (h'.update S (Obj.mapSeq (·.push (Value.ref hp.objs.size)))).get? b = some u := fun b u hb e => (Heap.get?_update_other _ _ (Ne.symm hb)).trans e
    have e1 : ((Ts ++ [hp.objs.size]).map Value.ref).toArray = (Ts.map Value.ref).toArray.push (.ref hp.objs.size) := by simp
    have nS : hp.objs.size ≠ S := Nat.ne_of_gt (Heap.lt_size hS)
    refine wpAny_updateSeq hS' rfl (wpAny_pure ⟨plainId_quiet F.plain_extend_loop _, ih (i + 1) _ (Ts ++ [hp.objs.size]) _ (by omega) hlt (x'.keep o oth) (by rw [e1]; exact Heap.get?_update_self _ hS' rfl) ?_ (by simp [hl]) ?_ fun h2 Ts2 c2 P2 l2 g2 k2 => ?_⟩) (by simp; omega) (by simp; omega)
    · refine ⟨?_, fun T hT => ?_, fun j T e => ?_⟩
      · rw [List.nodup_append]
        refine ⟨P.nd, by simp, fun T hT T2 hT2 => ?_⟩
        rw [List.mem_singleton.mp hT2]
        exact Nat.ne_of_lt (P.ge T hT).2
      · have hz : (h'.update S (Obj.mapSeq (·.push (Value.ref hp.objs.size)))).objs.size = h'.objs.size := (Heap.SameBut.update ..).1
        rw [hz, hsz]
        rcases List.mem_append.mp hT with z | z
        · have := P.ge T z
          exact ⟨this.1, Nat.lt_succ_of_lt this.2⟩
        · rw [List.mem_singleton.mp z]
          exact ⟨hbp, Nat.lt_succ_self _⟩
      · by_cases hj : j < Ts.length
        · rw [List.getElem?_append_left hj] at e
          obtain ⟨p, q, e1, e2, e3⟩ := P.pr j T e
          have := (P.ge T (List.mem_of_getElem? e)).1
          exact ⟨p, q, e1, e2, oth T _ (ne hb.1 this) (hkp T _ (ne hb.2.1 this) (ne hb.2.2.1 this) (ne hb.2.2.2.1 this) (ne hb.2.2.2.2 this) e3)⟩
        · have hj2 : j = i := by
            have := (List.getElem?_eq_some_iff.mp e).1
            simp at this
            omega
          subst hj2
          rw [List.getElem?_append_right (by omega), hl, Nat.sub_self] at e
          cases e
          exact ⟨_, _, Array.getElem?_eq_getElem hlt, Array.getElem?_eq_getElem (hlen ▸ hlt), oth _ _ nS hpr⟩
    · have hz : (h'.update S (Obj.mapSeq (·.push (Value.ref hp.objs.size)))).objs.size = h'.objs.size := (Heap.SameBut.update ..).1
      rw [hz, hsz]
      exact Nat.le_succ_of_le hbp
    · exact hR h2 Ts2 c2 P2 l2 g2 fun b u b1 b2 b3 b4 b5 e => k2 b u b1 b2 b3 b4 b5 (oth b u b1 (hkp b u b2 b3 b4 b5 e))
theorem zip_no_len : typeLookup (.type "zip") "__len__" = pure none := by rw [typeLookup_type, builtinLookup_eq_fast]; kernel_rfl
theorem zip_no_hint : typeLookup (.type "zip") "__length_hint__" = pure none := by rw [typeLookup_type, builtinLookup_eq_fast]; kernel_rfl
theorem collect_zip {Q : List Value → Shared → Prop} (hh : A.in1.handled = none) (D : ZipApart z TI TO i1 i2 l1 l2) (hlen : xs.size = ys.size) (hn : xs.size ≤ sizeLine)
    (x : ZipAt s.heap.objs.size z TI TO i1 i2 l1 l2 xs ys 0 s.heap) (iz : IsZip s.heap z TI TO .none) (lt : z < s.heap.objs.size ∧ TI < s.heap.objs.size ∧ TO < s.heap.objs.size ∧ i1 < s.heap.objs.size ∧ i2 < s.heap.objs.size ∧ l1 < s.heap.objs.size ∧ l2 < s.heap.objs.size)
    (hQ : ∀ (h' : Heap) (Ts : List Addr), PairsAt s.heap.objs.size xs ys Ts h' → Ts.length = xs.size → (∀ b u, b ≠ z → b ≠ TO → b ≠ i1 → b ≠ i2 → s.heap.get? b = some u → h'.get? b = some u) → Q (Ts.map Value.ref) { s with heap := h' }) :
    wpAny (model prog w) A (collect (.ref z)) Q E s := by
  have off : Off s.heap.objs.size z TI TO i1 i2 l1 l2 := ⟨Nat.ne_of_lt lt.1, Nat.ne_of_lt lt.2.1, Nat.ne_of_lt lt.2.2.1, Nat.ne_of_lt lt.2.2.2.1, Nat.ne_of_lt lt.2.2.2.2.1, Nat.ne_of_lt lt.2.2.2.2.2.1, Nat.ne_of_lt lt.2.2.2.2.2.2⟩
  unfold collect
  refine wpAny_bind (wpAny_runValue (codeAny_builtin F.entry_proto_collect ?_))
  rw [Around.under_plainId F.plain_proto_collect _]
  show wpAny _ A.in1 (newList [] >>= fun l => again (.builtin "list.__iadd__" ⟨[l, .ref z], []⟩)) _ _ s
  refine wpAny_bind (wpAny_newObj_type ?_)
  refine wpAny_pure ⟨plainId_quiet F.plain_list_iadd _, codeAny_builtin F.entry_list_iadd ?_⟩
  rw [Around.under_plainId F.plain_list_iadd _]
  have x1 : ZipAt s.heap.objs.size z TI TO i1 i2 l1 l2 xs ys 0 (s.heap.push { cls := .type "list", data := .seq ([] : List Value).toArray }) := x.keep off fun b u _ e => Heap.get?_push_of_some _ e
  have hS₁ : (s.heap.push { cls := .type "list", data := .seq ([] : List Value).toArray }).get? s.heap.objs.size = some { cls := .type "list", data := .seq ([] : List Value).toArray } := Heap.get?_push_size _ rfl
  have old : ∀ b u, s.heap.get? b = some u → (s.heap.push { cls := .type "list", data := .seq ([] : List Value).toArray }).get? b = some u := fun b u e => Heap.get?_push_of_some _ e
  have hsz : (s.heap.push { cls := .type "list", data := .seq ([] : List Value).toArray }).objs.size = s.heap.objs.size + 1 := Heap.size_push ..
  generalize s.heap.push { cls := .type "list", data := .seq ([] : List Value).toArray } = hp at x1 hS₁ old hsz
  show wpAny _ A.in1 (Builtin.List.listExtendWith (.ref s.heap.objs.size) (.ref z) (.ref s.heap.objs.size)) _ _ _
  unfold Builtin.List.listExtendWith
  refine wpAny_bind (wpAny_typeOf (x1.type (s := { s with heap := hp })) ?_)
  have h1 : Builtin.List.listSameRef (.ref s.heap.objs.size) (.ref z) = false := by simp [Builtin.List.listSameRef, off.z.symm]
  have h2 : (Value.type "zip" == Value.type "list") = false := by decide
  have h3 : (Value.type "zip" == Value.type "tuple") = false := by decide
  simp only [h1, h2, h3, Bool.or_false, Bool.false_eq_true, if_false]
  refine wpAny_bind (wpAny_pyIter_zip (s := { s with heap := hp }) (old _ _ iz) ?_)
  refine wpAny_bind (wpAny_holding ?_)
  unfold Builtin.List.listLengthHint
  refine wpAny_bind (wpAny_specialOf (x1.type (s := { s with heap := hp })) zip_no_len ?_)
  show wpAny _ A.in1 (specialOf (Value.ref z) (Str.ofString "__length_hint__") >>= _) _ _ _
  refine wpAny_bind (wpAny_specialOf (x1.type (s := { s with heap := hp })) zip_no_hint ?_)
  refine wpAny_pure ?_
  show wpAny _ A.in1 (rule "list.extend.makes-room" >>= fun _ => Builtin.List.listTouch (.ref s.heap.objs.size) >>= fun _ =>
    again (.builtin "list.extend.loop" ⟨[.ref s.heap.objs.size, .ref z, .ref s.heap.objs.size], []⟩)) _ _ _
  refine wpAny_bind (wpAny_rule ?_)
  refine wpAny_bind ?_
  show wpAny _ A.in1 (updateSeq s.heap.objs.size (·.push .none) >>= fun _ => updateSeq s.heap.objs.size (·.pop)) _ _ _
  refine wpAny_bind (wpAny_updateSeq (s := { s with heap := hp }) hS₁ rfl ?_)
  have hS₂ := Heap.get?_update_self (Obj.mapSeq (·.push Value.none)) hS₁ rfl
  refine wpAny_updateSeq hS₂ rfl ?_
  have hS₃ := Heap.get?_update_self (Obj.mapSeq (·.pop)) hS₂ rfl
  have oth : ∀ b o, b ≠ s.heap.objs.size → hp.get? b = some o →
      ((hp.update s.heap.objs.size (Obj.mapSeq (·.push Value.none))).update s.heap.objs.size (Obj.mapSeq (·.pop))).get? b = some o :=
    fun b o hb e => (Heap.get?_update_other _ _ (Ne.symm hb)).trans ((Heap.get?_update_other _ _ (Ne.symm hb)).trans e)
  have sz3 : ((hp.update s.heap.objs.size (Obj.mapSeq (·.push Value.none))).update s.heap.objs.size (Obj.mapSeq (·.pop))).objs.size = s.heap.objs.size + 1 := by
    rw [(Heap.SameBut.update ..).1, (Heap.SameBut.update ..).1, hsz]
  generalize (hp.update s.heap.objs.size (Obj.mapSeq (·.push Value.none))).update s.heap.objs.size (Obj.mapSeq (·.pop)) = hq at hS₃ oth sz3
  refine wpAny_pure ⟨plainId_quiet F.plain_extend_loop _, ext_zip (s := s) hh D off _ (s.heap.objs.size + 1) hlen hn ⟨Nat.lt_succ_self _, Nat.lt_succ_of_lt lt.1, Nat.lt_succ_of_lt lt.2.2.1, Nat.lt_succ_of_lt lt.2.2.2.1, Nat.lt_succ_of_lt lt.2.2.2.2.1⟩ _ 0 hq [] _ rfl (Nat.zero_le _) (x1.keep off oth) hS₃ ⟨.nil, (fun _ z => nomatch z), fun _ _ z => nomatch z⟩ rfl (by rw [sz3]; exact Nat.le_refl _) fun h' Ts c P l g k => ?_⟩
  show wpAny _ A (load s.heap.objs.size >>= _) _ _ _
  refine wpAny_bind (wpAny_load (s := { s with heap := h' }) g ?_)
  refine wpAny_pure ?_
  have := hQ h' Ts ⟨P.nd, fun T hT => ⟨Nat.le_of_succ_le (P.ge T hT).1, (P.ge T hT).2⟩, P.pr⟩ l fun b u b1 b2 b3 b4 e => k b u (Nat.ne_of_lt (Heap.lt_size e)) b1 b2 b3 b4 (oth b u (Nat.ne_of_lt (Heap.lt_size e)) (old b u e))
  simpa using this
theorem code_tuple_zip {Q₁ : Value → Shared → Prop} (hh : A.in1.in1.handled = none) (D : ZipApart z TI TO i1 i2 l1 l2) (hlen : xs.size = ys.size) (hn : xs.size ≤ sizeLine)
    (x : ZipAt s.heap.objs.size z TI TO i1 i2 l1 l2 xs ys 0 s.heap) (iz : IsZip s.heap z TI TO .none) (lt : z < s.heap.objs.size ∧ TI < s.heap.objs.size ∧ TO < s.heap.objs.size ∧ i1 < s.heap.objs.size ∧ i2 < s.heap.objs.size ∧ l1 < s.heap.objs.size ∧ l2 < s.heap.objs.size)
    (hQ : ∀ (h' : Heap) (Ts : List Addr), PairsAt s.heap.objs.size xs ys Ts h' → Ts.length = xs.size → (∀ b u, b ≠ z → b ≠ TO → b ≠ i1 → b ≠ i2 → s.heap.get? b = some u → h'.get? b = some u) → Q₁ (.ref h'.objs.size) { s with heap := h'.push { cls := .type "tuple", data := .seq (Ts.map Value.ref).toArray } }) :
    codeAny (model prog w) A (.call (.builtin "tuple.__new__") ⟨[.type "tuple", .ref z], []⟩) (wants Q₁ E) s := by
  refine codeAny_of_tree ?_
  show wpAny _ A.in1 (do checkBuiltinCall "tuple.__new__" ⟨[.type "tuple", .ref z], []⟩; again (.builtin "tuple.__new__" ⟨[.type "tuple", .ref z], []⟩)) _ _ s
  refine wpAny_bind (wpAny_of_eq (F.newCall_tuple_1 _) (wpAny_pure ⟨plainId_quiet F.plain_tuple_new _, codeAny_builtin F.entry_tuple_new ?_⟩))
  rw [Around.under_plainId F.plain_tuple_new _]
  have hsub := sub_tuple_self
  have hinit := init_tuple_lookup
  have hmh := madeHere_tuple
  have hTI := x.type (s := s)
  wp_walk using wpAny_typeOf hTI, collect_zip (A := A.in1) hh D hlen hn x iz lt
  intro h' Ts P l k
  show wpAny _ _ (Builtin.Tuple.tupleExact (Ts.map Value.ref).toArray >>= fun v => ret v) _ _ _
  unfold Builtin.Tuple.tupleExact
  refine wpAny_bind (wpAny_newObj_type ?_ (by show (Ts.map Value.ref).toArray.size ≤ sizeLine; simp; omega))
  refine wpAny_pure ?_
  exact hQ h' Ts P l k
theorem call_tuple_zip {Q : Value → Shared → Prop} (hh : A.handled = none) (D : ZipApart z TI TO i1 i2 l1 l2) (hlen : xs.size = ys.size) (hn : xs.size ≤ sizeLine)
    (x : ZipAt s.heap.objs.size z TI TO i1 i2 l1 l2 xs ys 0 s.heap) (iz : IsZip s.heap z TI TO .none) (lt : z < s.heap.objs.size ∧ TI < s.heap.objs.size ∧ TO < s.heap.objs.size ∧ i1 < s.heap.objs.size ∧ i2 < s.heap.objs.size ∧ l1 < s.heap.objs.size ∧ l2 < s.heap.objs.size)
    (hQ : ∀ (h' : Heap) (Ts : List Addr), PairsAt s.heap.objs.size xs ys Ts h' → Ts.length = xs.size → (∀ b u, b ≠ z → b ≠ TO → b ≠ i1 → b ≠ i2 → s.heap.get? b = some u → h'.get? b = some u) → Q (.ref h'.objs.size) { s with heap := h'.push { cls := .type "tuple", data := .seq (Ts.map Value.ref).toArray } }) :
    wpAny (model prog w) A (call (.type "tuple") [.ref z]) Q E s := by
  refine callType_codes (Q₁ := fun obj s₁ => s₁.TypeIs obj "tuple" ∧ Q obj s₁) F.called_tuple (F.typeCall_tuple_1 _) F.entry_object_init
    (code_tuple_zip (by simp [hh]) D hlen hn x iz lt fun h' Ts P l k => ⟨⟨_, Heap.get?_push_size _ rfl, rfl⟩, hQ h' Ts P l k⟩) fun obj s₁ h₁ => ?_
  exact ⟨h₁.1, F.args_object_init_2 obj _, object_init_meets F.called_tuple.init.lookup F.called_tuple.made (by decide) prog w A.in1 _ s₁ ⟨h₁.1, rfl, h₁.2⟩⟩
theorem apart_zip (n l1 l2 : Nat) (h1 : l1 < n) (h2 : l2 < n) : ZipApart (n + 4) (n + 2) (n + 3) n (n + 1) l1 l2 := by
  constructor <;> (show ¬ ((_ : Nat) = (_ : Nat)); omega)
theorem lts_zip (n l1 l2 : Nat) (h1 : l1 < n) (h2 : l2 < n) : n + 4 < n + 5 ∧ n + 2 < n + 5 ∧ n + 3 < n + 5 ∧ n < n + 5 ∧ n + 1 < n + 5 ∧ l1 < n + 5 ∧ l2 < n + 5 := by omega
theorem nes_zip (n b : Nat) (h : b < n) : b ≠ n + 4 ∧ b ≠ n + 3 ∧ b ≠ n ∧ b ≠ n + 1 := by omega
/-- tuple(zip(l1, l2)) -/
theorem call_tzip {Q : Value → Shared → Prop} (hh : A.handled = none) (hl1 : s.heap.IsList l1 xs) (hl2 : s.heap.IsList l2 ys) (hlen : xs.size = ys.size) (hn : xs.size ≤ sizeLine)
    (hQ : ∀ (h' : Heap) (Ts : List Addr), PairsAt s.heap.objs.size xs ys Ts h' → Ts.length = xs.size → (∀ b u, s.heap.get? b = some u → h'.get? b = some u) → Q (.ref h'.objs.size) { s with heap := h'.push { cls := .type "tuple", data := .seq (Ts.map Value.ref).toArray } }) :
    wpAny (model prog w) A (call (.type "zip") [.ref l1, .ref l2]) (fun z t => wpAny (model prog w) A (call (.type "tuple") [z]) Q E t) E s := by
  refine call_zip_2 hl1 hl2 fun h' a1 a2 a3 a4 a5 a6 k => ?_
  have lt1 : l1 < s.heap.objs.size := let ⟨_, e, _⟩ := hl1; Heap.lt_size e
  have lt2 : l2 < s.heap.objs.size := let ⟨_, e, _⟩ := hl2; Heap.lt_size e
  have D := apart_zip s.heap.objs.size l1 l2 lt1 lt2
  refine call_tuple_zip (s := { s with heap := h' }) hh D hlen hn ⟨a2, a4, a5, hl1.at fun o e => k _ o e, hl2.at fun o e => k _ o e, .inl ⟨a1, _, _, a3⟩⟩ a1 ?_ fun h2 Ts P l k2 => ?_
  · show _ ∧ _
    rw [a6]
    exact lts_zip _ _ _ lt1 lt2
  · refine hQ h2 Ts ⟨P.nd, fun T hT => ⟨?_, (P.ge T hT).2⟩, P.pr⟩ l fun b u e => ?_
    · have := (P.ge T hT).1
      have this : h'.objs.size ≤ T := this
      rw [a6] at this
      exact Nat.le_trans (Nat.le_add_right _ _) this
    · have hb := nes_zip _ _ (Heap.lt_size e)
      exact k2 b u hb.1 hb.2.1 hb.2.2.1 hb.2.2.2 (k b u e)
end
section
variable {fs ex : List Addr} {H H1 : Hp} {h h' : Heap} {a : Addr} {o : HO}
theorem un_more (u : Un fs ex H H1 h h') (hp : h.get? a = none) (hn : H1 a = none) : Un fs ex H (upd H1 a o) h h' where
  keep := u.keep
  slot := u.slot
  free := fun b ob q n hx => by rw [upd_ne (fun z => by rw [z, hp] at q; cases q)]; exact u.free b ob q n hx
  there := u.there
  tups := fun b xs q => by rw [upd_ne (ne_of_none (u.tups b xs q) hn)]; exact u.tups b xs q
  frzs := fun b ob xs q => by rw [upd_ne (ne_of_none (u.frzs b ob xs q) hn)]; exact u.frzs b ob xs q
  tbls := fun b ps q => by
    obtain ⟨m, e⟩ := u.tbls b ps q
    exact ⟨m, by rw [upd_ne (ne_of_none e hn)]; exact e⟩
end
section
variable {K : PySem.W.Frag} {G : Gt} {P : Program} {w : World} {fs : List Addr} {ρ : List Addr} {H : Hp} {hs : Hh} {h h' : Heap}
/-- pairs are laid, one by one -/
theorem lay_pairs : ∀ (l : List (Addr × V × V)), (l.map (·.1)).Nodup → (∀ p ∈ l, h.get? p.1 = none ∧ ∃ a b, RelV p.2.1 a ∧ RelV p.2.2 b ∧ IsPair h' p.1 a b) →
    ∀ H1 : Hp, Un fs [] H H1 h h' → HOk P w H1 h' → Sim K G ρ H1 hs → Ext ρ H ρ H1 → (∀ p ∈ l, H1 p.1 = none) →
    ∃ H2 : Hp, Un fs [] H H2 h h' ∧ HOk P w H2 h' ∧ Sim K G ρ H2 hs ∧ Ext ρ H ρ H2 ∧ (∀ p ∈ l, H2 p.1 = some (.tup [p.2.1, p.2.2])) ∧ ∀ a o, H1 a = some o → H2 a = some o
  | [], _, _, H1, u, k, S, e, _ => ⟨H1, u, k, S, e, (fun _ z => nomatch z), fun _ _ z => z⟩
  | p :: l, nd, hp, H1, u, k, S, e, hn => by
    obtain ⟨g, a, b, ra, rb, ip⟩ := hp p List.mem_cons_self
    have n := hn p List.mem_cons_self
    have nd2 := List.nodup_cons.mp (show (p.1 :: l.map (·.1)).Nodup from nd)
    have new : ObjOk P w (upd H1 p.1 (.tup [p.2.1, p.2.2])) h' p.1 (.tup [p.2.1, p.2.2]) := by
      refine ⟨by show 2 ≤ sizeLine; rw [sizeLine_eq]; decide, [a, b], .cons ra (.cons rb .nil), ?_⟩
      exact ⟨_, ip, rfl, _, rfl⟩
    obtain ⟨H2, u2, k2, S2, e2, hl, ho⟩ := lay_pairs l nd2.2 (fun q hq => hp q (List.mem_cons_of_mem _ hq)) (upd H1 p.1 (.tup [p.2.1, p.2.2])) (un_more u g n) (HOk.laidN k (fun _ _ z => z) n new) (S.tmp n) (e.trans (ext_tmp n (S.fresh n)))
      fun q hq => by
        have ne : q.1 ≠ p.1 := fun z => nd2.1 (by rw [← z]; exact List.mem_map_of_mem hq)
        rw [upd_ne ne]
        exact hn q (List.mem_cons_of_mem _ hq)
    refine ⟨H2, u2, k2, S2, e2, fun q hq => ?_, fun c o z => ho c o ?_⟩
    · rcases List.mem_cons.mp hq with z | z
      · rw [z]; exact ho _ _ upd_same
      · exact hl q z
    · rw [upd_ne (ne_of_none z n)]; exact z
theorem reps_pairs : ∀ {a b : List D} {vs ws : List V} {Ts : List Addr}, Reps K ρ H a vs → Reps K ρ H b ws → a.length = b.length → Ts.length = a.length →
    (∀ (j : Nat) (T : Addr) (v y : V), Ts[j]? = some T → vs[j]? = some v → ws[j]? = some y → H T = some (.tup [v, y])) → Reps K ρ H (zipD a b) (Ts.map V.ref)
  | [], b, vs, ws, Ts, _, _, _, hT, _ => by
    cases Ts with
    | nil => exact Reps.nil
    | cons _ _ => cases hT
  | x :: a, [], vs, ws, Ts, _, _, hl, _, _ => by cases hl
  | x :: a, y :: b, vs, ws, [], _, _, _, hT, _ => by cases hT
  | x :: a, y :: b, vs, ws, T :: Ts, ra, rb, hl, hT, k => by
    rw [Reps] at ra rb
    obtain ⟨v, vs, rfl, rv, ra⟩ := ra
    obtain ⟨u, ws, rfl, ru, rb⟩ := rb
    refine Reps.cons (rep_tup.mpr ⟨T, [v, u], rfl, SqT.of (k 0 T v u rfl rfl rfl), Reps.cons rv (Reps.cons ru Reps.nil)⟩) (reps_pairs ra rb (by simpa using hl) (by simpa using hT) fun j T2 v2 y2 e1 e2 e3 => k (j + 1) T2 v2 y2 e1 e2 e3)
theorem vals_refs : ∀ (Ts : List Addr), Vals (Ts.map V.ref) (Ts.map Value.ref)
  | [] => Paired.nil
  | _ :: Ts => Paired.cons rfl (vals_refs Ts)
end
section
variable {X : Cx} {G : Gt} {W : WX} {σ : L2.St} {ρ : List Addr} {H : Hp} {h : Hh}
theorem reps_len2 {K : PySem.W.Frag} {l : List D} {vs : List V} (h : Reps K ρ H l vs) : vs.length = l.length := h.length.symm
theorem tzip_go {d e : D} {v v2 : V} {u u2 : Value} {Q : VK} {pins : List (Addr × Obj)} {s : Shared} (hc : X.calm = true) (I : Inv X pins σ H s) (S : Sim X.K G ρ H h) (rd : Rep X.K ρ H d v) (re : Rep X.K ρ H e v2) (ru : RelV v u) (ru2 : RelV v2 u2) (o : RD X G W σ ρ H Q (tzipop d e h)) :
    wpAny (model X.prog X.w) X.A (call (.type "zip") [u, u2]) (fun z t => wpAny (model X.prog X.w) X.A (call (.type "tuple") [z]) (EP X pins σ Q) X.xe t) X.xe s := by
  unfold tzipop at o
  split at o
  · rename_i n m
    split at o
    · rename_i a b e1 e2
      split at o
      · rename_i hl
        obtain ⟨p, vs, rfl, _, H1, r1⟩ := S.lst e1 rd
        obtain ⟨p2, ws, rfl, _, H2, r2⟩ := S.lst e2 re
        obtain rfl : u = Value.ref p := ru
        obtain rfl : u2 = Value.ref p2 := ru2
        obtain ⟨its, rv, pl, hz⟩ := I.list (SqL.of H1)
        obtain ⟨its2, rv2, pl2, _⟩ := I.list (SqL.of H2)
        have n1 := r1.length
        have n2 := r2.length
        have n3 := rv.length
        have n4 := rv2.length
        have hd := I.ok.hd hc
        refine call_tzip hd pl.isList pl2.isList (by simp; omega) (by simp; omega) fun h' Ts Pr lt k => ?_
        have lt : Ts.length = a.length := by rw [lt]; simp; omega
        have key : ∀ (j : Nat) (T : Addr), Ts[j]? = some T → ∃ x y c f, vs[j]? = some x ∧ ws[j]? = some y ∧ RelV x c ∧ RelV y f ∧ IsPair h' T c f := by
          intro j T ej
          obtain ⟨c, f, i1, i2, ip⟩ := Pr.pr j T ej
          have hj := (List.getElem?_eq_some_iff.mp ej).1
          obtain ⟨x, ex⟩ : ∃ x, vs[j]? = some x := ⟨_, List.getElem?_eq_getElem (by omega)⟩
          obtain ⟨y, ey⟩ : ∃ y, ws[j]? = some y := ⟨_, List.getElem?_eq_getElem (by omega)⟩
          obtain ⟨c', ec, rc⟩ := rv.get ex
          obtain ⟨f', ef, rf⟩ := rv2.get ey
          have i1 : its[j]? = some c := by simpa using i1
          have i2 : its2[j]? = some f := by simpa using i2
          rw [ec] at i1; cases i1
          rw [ef] at i2; cases i2
          exact ⟨x, y, c, f, ex, ey, rc, rf, ip⟩
        have hlt : ∀ T ∈ Ts, s.heap.get? T = none ∧ H T = none := fun T hT => ⟨Heap.get?_none_of_le (Pr.ge T hT).1, I.hok.fresh (Pr.ge T hT).1⟩
        obtain ⟨HH, u1, k1, S1, E1, L1, _⟩ := lay_pairs (P := X.prog) (w := X.w) (K := X.K) (G := G) (fs := X.fs) (hs := h) (h := s.heap) (h' := h') (Ts.zip (vs.zip ws))
          (by rw [List.map_fst_zip (by simp; omega)]; exact Pr.nd)
          (fun q hq => by
            obtain ⟨j, ej⟩ := List.getElem?_of_mem hq
            rw [List.getElem?_zip_eq_some] at ej
            obtain ⟨ej1, ej2⟩ := ej
            rw [List.getElem?_zip_eq_some] at ej2
            obtain ⟨x, y, c, f, ex, ey, rc, rf, ip⟩ := key j _ ej1
            rw [ej2.1] at ex; cases ex
            rw [ej2.2] at ey; cases ey
            exact ⟨(hlt _ (List.mem_of_getElem? ej1)).1, c, f, rc, rf, ip⟩)
          H (Un.kept k) (I.hok.kept k) S (Ext.refl _ _) (fun q hq => (hlt _ (List.of_mem_zip hq).1).2)
        have J : Inv X pins σ HH { s with heap := h' } := I.un (t' := s.toks) u1 k1
        have J2 : Inv X pins σ (upd HH h'.objs.size (.tup (Ts.map V.ref))) { s with heap := h'.push { cls := .type "tuple", data := .seq (Ts.map Value.ref).toArray } } :=
          J.laid (t' := s.toks) (fun b o e => Heap.get?_push_of_some _ e) (Nat.le_refl _) (show ObjOk X.prog X.w _ _ _ (.tup (Ts.map V.ref)) from ⟨by simp; omega, Ts.map Value.ref, vals_refs Ts, IsTup.new _ _⟩)
        have hn : HH h'.objs.size = none := J.hok.fresh (Nat.le_refl _)
        refine ⟨.ref h'.objs.size, _, J2, rfl, ?_⟩
        refine o ρ _ (E1.trans (ext_tmp hn (S1.fresh hn))) (S1.tmp hn) _ (rep_tup.mpr ⟨h'.objs.size, Ts.map V.ref, rfl, SqT.of upd_same, ?_⟩)
        refine Reps.ext (ext_tmp hn (S1.fresh hn)) _ _ (reps_pairs (Reps.ext E1 _ _ r1) (Reps.ext E1 _ _ r2) hl lt fun j T x y ej ex ey => ?_)
        refine L1 (T, x, y) ?_
        refine List.mem_of_getElem? (i := j) ?_
        rw [List.getElem?_zip_eq_some]
        exact ⟨ej, by rw [List.getElem?_zip_eq_some]; exact ⟨ex, ey⟩⟩
      · exact False.elim o
    · exact False.elim o
  · exact False.elim o
end
end Z

/-! ZE: each construct of an expression, over the layer's rules. -/
namespace Z
open PySem PySem.Spec PyProof.Rows L2

section
variable {G : Gt} {X : Cx} {W : WX} {ma mb mc : Sg → Hh → Res D} {a b c : Expr} {pos : Pos}
abbrev PM (G : Gt) (X : Cx) (W : WX) (e : Expr) (m : Sg → Hh → Res D) : Prop := PE X e (tD G X W m)
abbrev PMT (G : Gt) (X : Cx) (W : WX) (e : Expr) (m : Sg → Hh → Res Bool) : Prop := PT X e (tBo G X W m)
abbrev PMs (G : Gt) (X : Cx) (W : WX) (es : List Expr) (m : Sg → Hh → Res (List D)) : Prop := PA X es (tDs G X W m)
/-- its truth -/
def trOf (m : Sg → Hh → Res D) : Sg → Hh → Res Bool := fun sg h => (m sg h).bind fun x h => ofOpt (truth h x) h

theorem pm_var {i : Nat} {x : Str} {m : Sg → Hh → Res D} (hN : X.N[i]? = some x) (hv : Vis X.env.scope x) (hd : (x == ("__debug__" : Str)) = false) (hcd : (x == ("__classdict__" : Str)) = false)
    (hm : ∀ sg h, m sg h = match sg[i]? with | some (some d) => .ok d h | _ => .bad) : PM G X W (.Name x pos) m := by
  refine PE.mono (pe_var hN hv hd hcd) fun σ H Q ⟨ρ, sg, h, S, R, o⟩ => ?_
  rw [hm] at o
  split at o
  · rename_i d e
    obtain ⟨v, h1, h2⟩ := R.val i d e
    exact ⟨v, h1, RD.val S o h2⟩
  · exact False.elim o
theorem pm_cst {e : Expr} {d : D} {v : V} {m : Sg → Hh → Res D} (he : PE X e (tC v)) (hr : ∀ ρ H, Rep X.K ρ H d v) (hm : ∀ sg h, m sg h = .ok d h) : PM G X W e m := by
  refine PE.mono he fun σ H Q ⟨ρ, sg, h, S, R, o⟩ => ?_
  rw [hm] at o
  exact RD.val S o (hr ρ H)
theorem pm_bin {op : Operator} (ha : PM G X W a ma) (hb : PM G X W b mb) : PM G X W (.BinOp a op b pos) (fun sg h => (ma sg h).bind fun x h => (mb sg h).bind fun y h => binop op x y h) := by
  refine PE.mono (pe_op any2 ha hb) fun σ H Q ⟨ρ, sg, h, S, R, o⟩ => ⟨ρ, sg, h, S, R, o.bind.imp fun ρ1 H1 h1 x e1 S1 o1 v rv => ⟨ρ1, sg, h1, S1, R.ext e1, o1.bind.imp fun ρ2 H2 h2 y e2 S2 o2 w rw => ?_⟩⟩
  exact binop_ok S2 (Rep.ext e2 _ _ rv) rw o2
theorem pm_neg (ha : PM G X W a ma) : PM G X W (.UnaryOp .USub a pos) (fun sg h => (ma sg h).bind fun x h => match x with | .int i => .ok (.int (-i)) h | _ => .bad) := by
  refine PE.mono (pe_un un_neg ha) fun σ H Q ⟨ρ, sg, h, S, R, o⟩ => ⟨ρ, sg, h, S, R, o.bind.imp fun ρ1 H1 h1 x e1 S1 o1 v rv => ?_⟩
  split at o1
  · rw [rep_int] at rv; subst rv
    exact ⟨_, rfl, RD.val S1 o1 (rep_int.mpr rfl)⟩
  · exact False.elim o1
theorem pm_not (ha : PM G X W a ma) : PM G X W (.UnaryOp .Not a pos) (fun sg h => (ma sg h).bind fun x h => (ofOpt (truth h x) h).bind fun b h => .ok (.bl (!b)) h) := by
  refine PE.mono (pe_notT ha) fun σ H Q ⟨ρ, sg, h, S, R, o⟩ => ⟨ρ, sg, h, S, R, o.bind.imp fun ρ1 H1 h1 x e1 S1 o1 v rv => ?_⟩
  cases e : truth h1 x with
  | none => rw [e] at o1; exact False.elim o1
  | some k => rw [e] at o1; exact ⟨k, truth_ok S1 rv e, RD.val S1 o1 (rep_bl.mpr rfl)⟩
theorem pm_and {rest : List Expr} (ha : PM G X W a ma) (hb : PM G X W (.BoolOp .And (b :: rest) pos) mb) : PM G X W (.BoolOp .And (a :: b :: rest) pos) (fun sg h => (ma sg h).bind fun x h => (ofOpt (truth h x) h).bind fun t h => if t then mb sg h else .ok x h) := by
  refine PE.mono (pe_andT ha hb) fun σ H Q ⟨ρ, sg, h, S, R, o⟩ => ⟨ρ, sg, h, S, R, o.bind.imp fun ρ1 H1 h1 x e1 S1 o1 v rv => ?_⟩
  cases e : truth h1 x with
  | none => rw [e] at o1; exact False.elim o1
  | some k =>
    rw [e] at o1
    refine ⟨k, truth_ok S1 rv e, ?_⟩
    cases k with
    | true => exact ⟨ρ1, sg, h1, S1, R.ext e1, o1⟩
    | false => exact RD.val S1 o1 rv
theorem pm_or {rest : List Expr} (ha : PM G X W a ma) (hb : PM G X W (.BoolOp .Or (b :: rest) pos) mb) : PM G X W (.BoolOp .Or (a :: b :: rest) pos) (fun sg h => (ma sg h).bind fun x h => (ofOpt (truth h x) h).bind fun t h => if t then .ok x h else mb sg h) := by
  refine PE.mono (pe_orT ha hb) fun σ H Q ⟨ρ, sg, h, S, R, o⟩ => ⟨ρ, sg, h, S, R, o.bind.imp fun ρ1 H1 h1 x e1 S1 o1 v rv => ?_⟩
  cases e : truth h1 x with
  | none => rw [e] at o1; exact False.elim o1
  | some k =>
    rw [e] at o1
    refine ⟨k, truth_ok S1 rv e, ?_⟩
    cases k with
    | true => exact RD.val S1 o1 rv
    | false => exact ⟨ρ1, sg, h1, S1, R.ext e1, o1⟩
theorem pm_cmp {op : CmpOp} (hu : X.A.units + 64 < cLine) (ha : PM G X W a ma) (hb : PM G X W b mb) (hm : behindInMarks op b = false) : PM G X W (.Compare a [op] [b] pos) (fun sg h => (ma sg h).bind fun x h => (mb sg h).bind fun y h => cmpop op x y h) := by
  refine PE.mono (pe_cmpR any2 ha hb hm) fun σ H Q ⟨ρ, sg, h, S, R, o⟩ => ⟨ρ, sg, h, S, R, o.bind.imp fun ρ1 H1 h1 x e1 S1 o1 v rv => ⟨ρ1, sg, h1, S1, R.ext e1, o1.bind.imp fun ρ2 H2 h2 y e2 S2 o2 w rw => ?_⟩⟩
  exact cmpop_ok hu S2 (Rep.ext e2 _ _ rv) rw o2
theorem pm_chain {op op' : CmpOp} (hu : X.A.units + 64 < cLine) (ha : PM G X W a ma) (hb : PM G X W b mb) (hc : PM G X W c mc) (hm : lastMarks [op, op'] [b, c] = false) :
    PM G X W (.Compare a [op, op'] [b, c] pos) (fun sg h => (ma sg h).bind fun x h => (mb sg h).bind fun y h => (ofOpt (cmpD op x y h) h).bind fun t h => if t then (mc sg h).bind fun z h => cmpop op' y z h else .ok (.bl false) h) := by
  refine PE.mono (pe_chain any2 any2 ha hb hc hm) fun σ H Q ⟨ρ, sg, h, S, R, o⟩ => ⟨ρ, sg, h, S, R, o.bind.imp fun ρ1 H1 h1 x e1 S1 o1 v rv => ⟨ρ1, sg, h1, S1, R.ext e1, o1.bind.imp fun ρ2 H2 h2 y e2 S2 o2 w rw => ?_⟩⟩
  cases e : cmpD op x y h2 with
  | none => rw [e] at o2; exact False.elim o2
  | some t =>
    rw [e] at o2
    refine cmpD_ok hu S2 (Rep.ext e2 _ _ rv) rw e ⟨t, rfl, ?_⟩
    cases t with
    | true => exact ⟨ρ2, sg, h2, S2, (R.ext e1).ext e2, (Out.bind (show Out X.K G W σ ρ2 H2 _ ((mc sg h2).bind fun z h => cmpop op' y z h) from o2)).imp fun ρ3 H3 h3 z e3 S3 o3 u ru => cmpop_ok hu S3 (Rep.ext e3 _ _ rw) ru o3⟩
    | false => exact RD.val S2 o2 (rep_bl.mpr rfl)

/-! ### lists of expressions -/
theorem pms_nil : PMs G X W [] (fun _ h => .ok [] h) := by
  refine PA.mono pa_nil fun σ H Q ⟨ρ, sg, h, S, R, o⟩ => ?_
  exact Out.now S o [] Reps.nil
theorem pms_cons {es : List Expr} {ms : Sg → Hh → Res (List D)} (ha : PM G X W a ma) (hr : PMs G X W es ms) (hs : starEach (a :: es) X.env = (false, eval a X.env) :: starEach es X.env) :
    PMs G X W (a :: es) (fun sg h => (ma sg h).bind fun x h => (ms sg h).bind fun xs h => .ok (x :: xs) h) := by
  refine PA.mono (pa_cons ha hr hs) fun σ H Q ⟨ρ, sg, h, S, R, o⟩ => ⟨ρ, sg, h, S, R, o.bind.imp fun ρ1 H1 h1 x e1 S1 o1 v rv => ⟨ρ1, sg, h1, S1, R.ext e1, o1.bind.imp fun ρ2 H2 h2 xs e2 S2 o2 vs rvs => ?_⟩⟩
  exact Out.now S2 o2 _ (Reps.cons (Rep.ext e2 _ _ rv) rvs)
variable {es : List Expr} {ms : Sg → Hh → Res (List D)}
theorem pm_tup {k : Nat} (hs : PMs G X W es ms) : PM G X W (.Tuple es k pos) (fun sg h => (ms sg h).bind fun xs h => if xs.length ≤ SZ then .ok (.tup xs) h else .bad) := by
  refine PE.mono (pe_tup hs) fun σ H Q ⟨ρ, sg, h, S, R, o⟩ => ⟨ρ, sg, h, S, R, o.bind.imp fun ρ1 H1 h1 xs e1 S1 o1 vs rvs => ?_⟩
  split at o1
  · rename_i hl
    exact ⟨by rw [← rvs.length, ← SZ_eq]; exact hl, RD.tup S1 o1 rvs⟩
  · exact False.elim o1
theorem pm_lst (hs : PMs G X W es ms) : PM G X W (.List es pos) (fun sg h => (ms sg h).bind fun xs h => if xs.length ≤ SZ then alloc h (.lst xs) else .bad) := by
  refine PE.mono (pe_lst hs) fun σ H Q ⟨ρ, sg, h, S, R, o⟩ => ⟨ρ, sg, h, S, R, o.bind.imp fun ρ1 H1 h1 xs e1 S1 o1 vs rvs => ?_⟩
  split at o1
  · rename_i hl
    exact ⟨by rw [← rvs.length, ← SZ_eq]; exact hl, RD.alloc S1 o1 rvs⟩
  · exact False.elim o1
/-! ### subscripts, attributes -/
theorem pm_idx (hu : X.A.units + 1 < cLine) (ha : PM G X W a ma) (hb : PM G X W b mb) (hs : PlainIx b) : PM G X W (.Subscript a b pos) (fun sg h => (ma sg h).bind fun x h => (mb sg h).bind fun y h => getix x y h) := by
  refine PE.mono (pe_ix anyI ha hb hs) fun σ H Q ⟨ρ, sg, h, S, R, o⟩ => ⟨ρ, sg, h, S, R, o.bind.imp fun ρ1 H1 h1 x e1 S1 o1 v rv => ⟨ρ1, sg, h1, S1, R.ext e1, o1.bind.imp fun ρ2 H2 h2 y e2 S2 o2 w rw => ?_⟩⟩
  exact getix_ok hu S2 (Rep.ext e2 _ _ rv) rw o2
theorem pmo_none : PO X none (tOi G X W fun _ h => .ok none h) := ⟨fun pins s σ H Q I ⟨ρ, sg, h, S, R, o⟩ => po_none.run pins s σ H Q I (Out.now S o)⟩
theorem pmo_some (ha : PM G X W a ma) : PO X (some a) (tOi G X W fun sg h => (ma sg h).bind fun x h => match x with | .int i => .ok (some i) h | _ => .bad) := by
  refine ⟨fun pins s σ H Q I ⟨ρ, sg, h, S, R, o⟩ => (po_some ha).run pins s σ H Q I ⟨ρ, sg, h, S, R, o.bind.imp fun ρ1 H1 h1 x e1 S1 o1 v rv => ?_⟩⟩
  split at o1
  · rw [rep_int] at rv; subst rv
    exact ⟨_, rfl, Out.now S1 o1⟩
  · exact False.elim o1
theorem pm_sli {lo hi : Option Expr} {p2 : Pos} {ml mh : Sg → Hh → Res (Option Int)} (ha : PM G X W a ma) (hl : PO X lo (tOi G X W ml)) (hh : PO X hi (tOi G X W mh)) :
    PM G X W (.Subscript a (.Slice lo hi none p2) pos) (fun sg h => (ma sg h).bind fun x h => (ml sg h).bind fun l h => (mh sg h).bind fun r h => slice x l r h) := by
  refine PE.mono (pe_slice anyS ha hl hh) fun σ H Q ⟨ρ, sg, h, S, R, o⟩ => ⟨ρ, sg, h, S, R, o.bind.imp fun ρ1 H1 h1 x e1 S1 o1 v rv => ⟨ρ1, sg, h1, S1, R.ext e1, o1.bind.imp fun ρ2 H2 h2 l e2 S2 o2 =>
    ⟨ρ2, sg, h2, S2, (R.ext e1).ext e2, o2.bind.imp fun ρ3 H3 h3 r e3 S3 o3 => slice_ok S3 (Rep.ext e3 _ _ (Rep.ext e2 _ _ rv)) o3⟩⟩⟩
theorem pm_fld {f : Nm} {x : Str} (hx : x = toS f) (ha : PM G X W a ma) (hb : attributeBase a x X.env (eval a X.env) = eval a X.env) : PM G X W (.Attribute a x pos) (fun sg h => (ma sg h).bind fun x h => getfl x f h) := by
  subst hx
  refine PE.mono (pe_fld ha hb) fun σ H Q ⟨ρ, sg, h, S, R, o⟩ => ⟨ρ, sg, h, S, R, o.bind.imp fun ρ1 H1 h1 x e1 S1 o1 v rv => getfl_ok S1 rv o1⟩

/-- a table of the module's top, by its text keys -/
theorem pm_tab {x : Str} {kvs : List (Nm × D)} {t : Addr} {px : Pos} {mb : Sg → Hh → Res D} (he : PE X (.Name x px) (tC (.ref t))) (hk : ∀ s d, fget kvs s = some d → ∃ v, KDct X.K X.w t (toS s) v ∧ ∀ ρ H, Rep X.K ρ H d v) (hb : PM G X W b mb) (hs : PlainIx b) :
    PM G X W (.Subscript (.Name x px) b pos) (fun sg h => (mb sg h).bind fun y h => match y with | .str s => ofOpt (fget kvs s) h | _ => .bad) := by
  refine PE.mono (pe_ix ix_kdict he hb hs) fun σ H Q ⟨ρ, sg, h, S, R, o⟩ => ?_
  refine ⟨ρ, sg, h, S, R, o.bind.imp fun ρ1 H1 h1 y e1 S1 o1 v rv => ?_⟩
  split at o1
  · rename_i s
    rw [rep_str] at rv
    obtain ⟨rfl, _⟩ := rv
    cases e : fget kvs s with
    | none => rw [e] at o1; exact False.elim o1
    | some d =>
      rw [e] at o1
      obtain ⟨u, k1, k2⟩ := hk s d e
      exact ⟨t, toS s, u, rfl, rfl, k1, RD.val S1 o1 (k2 _ _)⟩
  · exact False.elim o1

/-! ### tests -/
theorem et_and {m n : Sg → Hh → Res D} (sg : Sg) (h : Hh) : trOf (fun sg h => (m sg h).bind fun x h => (ofOpt (truth h x) h).bind fun t h => if t then n sg h else .ok x h) sg h = (trOf m sg h).bind fun t h => if t then trOf n sg h else .ok false h := by
  unfold trOf
  dsimp only
  cases m sg h with
  | ok x h1 =>
    simp only [Res.bind_ok]
    cases e : truth h1 x with
    | none => rfl
    | some t =>
      simp only [ofOpt_some, Res.bind_ok]
      cases t with
      | true => rfl
      | false => simp [e]
  | exc c fs h1 => rfl
  | bad => rfl
theorem et_or {m n : Sg → Hh → Res D} (sg : Sg) (h : Hh) : trOf (fun sg h => (m sg h).bind fun x h => (ofOpt (truth h x) h).bind fun t h => if t then .ok x h else n sg h) sg h = (trOf m sg h).bind fun t h => if t then .ok true h else trOf n sg h := by
  unfold trOf
  dsimp only
  cases m sg h with
  | ok x h1 =>
    simp only [Res.bind_ok]
    cases e : truth h1 x with
    | none => rfl
    | some t =>
      simp only [ofOpt_some, Res.bind_ok]
      cases t with
      | true => simp [e]
      | false => rfl
  | exc c fs h1 => rfl
  | bad => rfl
theorem et_not {m : Sg → Hh → Res D} (sg : Sg) (h : Hh) : trOf (fun sg h => (m sg h).bind fun x h => (ofOpt (truth h x) h).bind fun b h => .ok (.bl (!b)) h) sg h = (trOf m sg h).bind fun t h => .ok (!t) h := by
  unfold trOf
  dsimp only
  cases m sg h with
  | ok x h1 =>
    simp only [Res.bind_ok]
    cases e : truth h1 x with
    | none => rfl
    | some t => rfl
  | exc c fs h1 => rfl
  | bad => rfl
theorem pt_plain (ha : PM G X W a ma) (he : ∀ whole, isTrue a X.env whole = (do let v ← whole; standAt a.pos; holding [v] (truthy v))) : PMT G X W a (trOf ma) := by
  refine PT.mono (pt_truth ha he) fun σ H Q ⟨ρ, sg, h, S, R, o⟩ => ⟨ρ, sg, h, S, R, (Out.bind (show Out X.K G W σ ρ H _ ((ma sg h).bind fun x h => ofOpt (truth h x) h) from o)).imp fun ρ1 H1 h1 x e1 S1 o1 v rv => ?_⟩
  cases e : truth h1 x with
  | none => rw [e] at o1; exact False.elim o1
  | some k => rw [e] at o1; exact ⟨k, truth_ok S1 rv e, Out.now S1 o1⟩
theorem pt_notM (ha : PMT G X W a (trOf ma)) : PMT G X W (.UnaryOp .Not a pos) (trOf fun sg h => (ma sg h).bind fun x h => (ofOpt (truth h x) h).bind fun b h => .ok (.bl (!b)) h) := by
  refine PT.mono (pt_not ha) fun σ H Q ⟨ρ, sg, h, S, R, o⟩ => ?_
  rw [et_not] at o
  exact ⟨ρ, sg, h, S, R, o.bind.imp fun ρ1 H1 h1 t e1 S1 o1 => Out.now S1 o1⟩
theorem pt_cmpM {op : CmpOp} (hu : X.A.units + 64 < cLine) (ha : PM G X W a ma) (hb : PM G X W b mb) (hm : behindInMarks op b = false) : PMT G X W (.Compare a [op] [b] pos) (trOf fun sg h => (ma sg h).bind fun x h => (mb sg h).bind fun y h => cmpop op x y h) := by
  refine PT.mono (pt_cmpR any2 ha hb hm) fun σ H Q ⟨ρ, sg, h, S, R, o⟩ => ⟨ρ, sg, h, S, R, ?_⟩
  have o' : Out X.K G W σ ρ H (fun _ H' _ b => Q b H') ((ma sg h).bind fun x h => (mb sg h).bind fun y h => ofOpt (cmpD op x y h) h) := by
    have e : (trOf fun sg h => (ma sg h).bind fun x h => (mb sg h).bind fun y h => cmpop op x y h) sg h = ((ma sg h).bind fun x h => (mb sg h).bind fun y h => ofOpt (cmpD op x y h) h) := by
      unfold trOf cmpop
      dsimp only
      cases ma sg h with
      | ok x h1 =>
        simp only [Res.bind_ok]
        cases mb sg h1 with
        | ok y h2 =>
          simp only [Res.bind_ok]
          cases cmpD op x y h2 <;> rfl
        | exc c fs h2 => rfl
        | bad => rfl
      | exc c fs h1 => rfl
      | bad => rfl
    rw [← e]; exact o
  exact o'.bind.imp fun ρ1 H1 h1 x e1 S1 o1 v rv => ⟨ρ1, sg, h1, S1, R.ext e1, o1.bind.imp fun ρ2 H2 h2 y e2 S2 o2 w rw => by
    cases e : cmpD op x y h2 with
    | none => rw [e] at o2; exact False.elim o2
    | some t =>
      rw [e] at o2
      exact cmpD_ok hu S2 (Rep.ext e2 _ _ rv) rw e ⟨t, rfl, Out.now S2 o2⟩⟩
theorem pt_chainM {op op' : CmpOp} (hu : X.A.units + 64 < cLine) (ha : PM G X W a ma) (hb : PM G X W b mb) (hc : PM G X W c mc) (hm : lastMarks [op, op'] [b, c] = false) :
    PMT G X W (.Compare a [op, op'] [b, c] pos) (trOf fun sg h => (ma sg h).bind fun x h => (mb sg h).bind fun y h => (ofOpt (cmpD op x y h) h).bind fun t h => if t then (mc sg h).bind fun z h => cmpop op' y z h else .ok (.bl false) h) := by
  have hp := pm_chain (pos := pos) hu ha hb hc hm
  refine PT.mono (pt_chain any2 any2 ha hb hc hm) fun σ H Q ⟨ρ, sg, h, S, R, o⟩ => ?_
  refine ⟨ρ, sg, h, S, R, ?_⟩
  unfold trOf at o
  have o' := Out.bind o
  refine (Out.bind o').imp fun ρ1 H1 h1 x e1 S1 o1 v rv => ⟨ρ1, sg, h1, S1, R.ext e1, o1.bind.imp fun ρ2 H2 h2 y e2 S2 o2 w rw => ?_⟩
  cases e : cmpD op x y h2 with
  | none => rw [e] at o2; exact False.elim o2
  | some t =>
    rw [e] at o2
    simp only [ofOpt_some, Res.bind_ok] at o2
    refine cmpD_ok hu S2 (Rep.ext e2 _ _ rv) rw e ⟨t, rfl, ?_⟩
    cases t with
    | true =>
      refine ⟨ρ2, sg, h2, S2, (R.ext e1).ext e2, (Out.bind (show Out X.K G W σ ρ2 H2 _ ((mc sg h2).bind fun z h => cmpop op' y z h) from o2)).imp fun ρ3 H3 h3 z e3 S3 o3 u ru => ?_⟩
      unfold cmpop at o3
      cases e5 : cmpD op' y z h3 with
      | none => rw [e5] at o3; exact False.elim o3
      | some t2 =>
        rw [e5] at o3
        have o4 := Out.now S3 (show Out X.K G W σ ρ3 H3 _ (.ok (D.bl t2) h3) from o3)
        exact cmpD_ok hu S3 (Rep.ext e3 _ _ rw) ru e5 ⟨t2, rfl, Out.now S3 o4⟩
    | false =>
      have o4 := Out.now S2 (show Out X.K G W σ ρ2 H2 _ (.ok (D.bl false) h2) from o2)
      exact ⟨false, rfl, Out.now S2 o4⟩
end
end Z

/-! ZF: calls of defs, classes, built-ins and methods. -/
namespace Z
open PySem PySem.Spec PyProof.Rows L2

/-- a def's promise: it does what run says -/
def spF (K : PySem.W.Frag) (G : Gt) (np : Nat) (run : List D → Hh → Res D) : Sp := fun vs H Q E => vs.length = np ∧ ∃ ρ h ds, Sim K G ρ H h ∧ Reps K ρ H ds vs ∧
  Out K G (fun c d _ H => E c d H) [] ρ H (fun ρ' H' _ d => ∀ v, Rep K ρ' H' d v → Q v H') (run ds h)
/-- what is known of a def at a level -/
def FnFact (G : Gt) (P : Fid → Option Fn) (k : Nat) (X : Cx) (f : Fid) (F : Fn) : Prop :=
  ∃ fd ps, FnOk X.prog X.w X.K X.mg X.base (L2.CX X.prog X.w) (2 * k) (G.fad f) fd ps (spF X.K G F.np (runK P G.tb k F)) ∧ ps.length = F.np ∧ F.dfl.length ≤ F.np ∧
    ∀ m, m ≤ F.dfl.length → ∃ dvs ds, (∀ ρ H, Reps X.K ρ H (F.dfl.drop (F.dfl.length - m)) dvs) ∧ Vals dvs ds ∧ Binds X.K fd ps ds
section
variable {G : Gt} {P : Fid → Option Fn} {k : Nat} {X : Cx} {W : WX} {σ : L2.St} {ρ : List Addr} {H : Hp} {h : Hh} {s : Shared} {pins : List (Addr × Obj)}
theorem outW {α : Type} {Pr : List Addr → Hp → Hh → α → Prop} {r : Res α} (o : Out X.K G W σ ρ H Pr r) : Out X.K G (fun c d _ H => W c d σ H) [] ρ H Pr r := by
  cases r with
  | ok a h' => exact o
  | exc c fs h' => exact o
  | bad => exact o
theorem run_callZ {f : Fid} {ds : List D} {vs : List V} {us : List Value} {Q : VK} (hf : ∀ F, P f = some F → FnFact G P k X f F) (hr : Room (2 * k) X.A) (tk : Takes X W) (I : Inv X pins σ H s) (S : Sim X.K G ρ H h)
    (r : Reps X.K ρ H ds vs) (rv : Vals vs us) (o : RD X G W σ ρ H Q (callG P (runK P G.tb k) f ds h)) : wpAny (model X.prog X.w) X.A (call (.ref (G.fad f)) us) (EP X pins σ Q) X.xe s := by
  unfold callG at o
  cases e : P f with
  | none => rw [e] at o; exact False.elim o
  | some F =>
    rw [e] at o
    obtain ⟨fd, ps, hF, hps, hd, hb⟩ := hf F e
    dsimp only at o
    split at o
    · rename_i hl
      obtain ⟨dvs, dvu, h1, h2, h3⟩ := hb (F.np - ds.length) (by omega)
      have ep : pad F ds = ds ++ F.dfl.drop (F.dfl.length - (F.np - ds.length)) := by
        unfold pad
        congr 2
        omega
      rw [ep] at o
      refine run_fnSD (E := fun σ c d H => W c d σ H) hF hr h3 h2 (fun pins H s e s' I c => tk e s' (XE.of_call I (fun _ _ _ w => w) c)) I rv ⟨?_, ρ, h, _, S, r.app (h1 ρ H), outW o⟩
      rw [List.length_append, ← r.length, ← (h1 ρ H).length, List.length_drop]
      omega
    · exact False.elim o
/-- a new instance, at its places: dn its dict, dn + 1 the instance -/
theorem run_make_at {C f : Addr} {fd : FuncData} {ps : List Str} {sp : Sp} {dvs : List V} {ds : List Value} {k : Nat} {Q : VK} {us : List Value} {vs : List V} (M : Mk X.K C f) (F : FnOk X.prog X.w X.K X.mg X.base (L2.CX X.prog X.w) k f fd ps sp) (hr : Room (k + 1) X.A) (hb : Binds X.K fd ps ds) (hd : Vals dvs ds)
    (tk : Takes X W) (I : Inv X pins σ H s) (r : Vals vs us)
    (hq : sp (.ref (s.heap.objs.size + 1) :: (vs ++ dvs)) (upd (upd H s.heap.objs.size (.own (s.heap.objs.size + 1))) (s.heap.objs.size + 1) (.ins C s.heap.objs.size [])) (fun v H2 => v = .non ∧ Q (.ref (s.heap.objs.size + 1)) H2) (fun c d H => W c d σ H)) :
    wpAny (model X.prog X.w) X.A (call (.ref C) us)
      (EP X pins σ Q) X.xe s := by
  have J := Inv.made (C := C) I
  have rr : Vals (V.ref (s.heap.objs.size + 1) :: (vs ++ dvs))
      (Value.ref (s.heap.objs.size + 1) :: (us ++ ds)) := .cons rfl (r.append hd)
  have len : (Value.ref (s.heap.objs.size + 1) :: us ++ ds).length
      = ps.length := (rr.length.symm.trans (F.len _ _ _ _ hq))
  have run := F.run _ X.stack _ _ ⟨Value.ref (s.heap.objs.size + 1) :: us, []⟩
    (Value.ref (s.heap.objs.size + 1) :: (us ++ ds)) _ _ (fun c d H => W c d σ H)
    (hr.make C us []) (J.env0.make C us [])
    (hb _ (Value.ref (s.heap.objs.size + 1) :: us) J.kIn len) rr hq
  refine wpAny_call (make_map (f := f) I.kIn M.makes M.init (beq_iff_eq.mp M.fn) (codeAny_mono run ?_))
  intro out t ho
  cases out with
  | error e => exact tk e t (XE.of_call J (fun _ _ _ w => w) ho)
  | ok fl =>
    cases fl with
    | ret u =>
      obtain ⟨v, H3, J3, rv, ev, q3⟩ := J.after ho
      subst ev
      exact ⟨rv, V.ref (s.heap.objs.size + 1), H3, J3, rfl, q3⟩
    | next => exact ho.elim
    | brk => exact ho.elim
    | cont => exact ho.elim
theorem run_makeZ {c : Nm} {f : Fid} {ds : List D} {vs : List V} {us : List Value} {Q : VK} (hf : ∀ F, P f = some F → FnFact G P k X f F) (hr : Room (2 * k + 1) X.A) (tk : Takes X W) (M : Mk X.K (G.cad c) (G.fad f)) (C : ClsOk X.K G c)
    (I : Inv X pins σ H s) (S : Sim X.K G ρ H h) (r : Reps X.K ρ H ds vs) (rv : Vals vs us) (o : RD X G W σ ρ H Q (makeop (callG P (runK P G.tb k)) c f ds h)) : wpAny (model X.prog X.w) X.A (call (.ref (G.cad c)) us) (EP X pins σ Q) X.xe s := by
  unfold makeop at o
  -- the new instance
  have nx : H (s.heap.objs.size + 1) = none := I.hok.fresh (Nat.le_succ _)
  have nd : H s.heap.objs.size = none := I.hok.fresh (Nat.le_refl _)
  have ne : s.heap.objs.size ≠ s.heap.objs.size + 1 := by omega
  have e1 : Ext ρ H ρ (upd H s.heap.objs.size (.own (s.heap.objs.size + 1))) := ext_tmp nd (S.fresh nd)
  have S1 := S.tmp (o := .own (s.heap.objs.size + 1)) nd
  have nx1 : (upd H s.heap.objs.size (.own (s.heap.objs.size + 1))) (s.heap.objs.size + 1) = none := by rw [upd_ne ne.symm]; exact nx
  have e2 : Ext ρ (upd H s.heap.objs.size (.own (s.heap.objs.size + 1))) (ρ ++ [s.heap.objs.size + 1]) (upd (upd H s.heap.objs.size (.own (s.heap.objs.size + 1))) (s.heap.objs.size + 1) (.ins (G.cad c) s.heap.objs.size [])) := ext_new nx1
  have S2 := S1.new (u := .ins (G.cad c) s.heap.objs.size []) (o := .ins c []) nx1 ⟨_, [], upd_same, .nil, C⟩
  have E12 := e1.trans e2
  have o1 := (Out.bind o).ext E12
  have I2 := Inv.made (C := G.cad c) I
  have rself : Rep X.K (ρ ++ [s.heap.objs.size + 1]) (upd (upd H s.heap.objs.size (.own (s.heap.objs.size + 1))) (s.heap.objs.size + 1) (.ins (G.cad c) s.heap.objs.size [])) (.ref h.length) (.ref (s.heap.objs.size + 1)) :=
    rep_ref.mpr ⟨_, rfl, by rw [← S.len]; simp⟩
  unfold callG at o1
  cases e : P f with
  | none => rw [e] at o1; exact False.elim o1
  | some F =>
    rw [e] at o1
    obtain ⟨fd, ps, hF, hps, hd, hb⟩ := hf F e
    dsimp only at o1
    split at o1
    · rename_i hl
      obtain ⟨dvs, dvu, h1, h2, h3⟩ := hb (F.np - (D.ref h.length :: ds).length) (by omega)
      have ep : pad F (D.ref h.length :: ds) = (D.ref h.length :: ds) ++ F.dfl.drop (F.dfl.length - (F.np - (D.ref h.length :: ds).length)) := by
        unfold pad
        congr 2
        omega
      rw [ep] at o1
      have rs := (Reps.cons rself (Reps.ext E12 _ _ r)).app (h1 _ _)
      have hq : spF X.K G F.np (runK P G.tb k F) (V.ref (s.heap.objs.size + 1) :: (vs ++ dvs)) (upd (upd H s.heap.objs.size (.own (s.heap.objs.size + 1))) (s.heap.objs.size + 1) (.ins (G.cad c) s.heap.objs.size []))
          (fun v H2 => v = .non ∧ Q (.ref (s.heap.objs.size + 1)) H2) (fun c d H => W c d σ H) := by
        refine ⟨?_, _, _, _, S2, rs, (outW o1).imp fun ρ' H' h' d e' S' o' v rv' => ?_⟩
        · rw [List.length_cons, List.length_append, ← r.length, ← (h1 ρ H).length, List.length_drop, List.length_cons]
          rw [List.length_cons] at hl
          omega
        · split at o'
          · rw [rep_non] at rv'
            refine ⟨rv', ?_⟩
            exact Out.now S' o' _ (Rep.ext e' _ _ rself)
          · exact False.elim o'
      refine run_make_at M hF hr h3 h2 tk I rv hq
    · exact False.elim o1
end
/-! ### rows of arguments -/
def noStar : Expr → Bool
  | .Starred _ _ => false
  | _ => true
theorem star_cons {e : Expr} (h : noStar e = true) (es : List Expr) (env : Env) : starEach (e :: es) env = (false, eval e env) :: starEach es env := by
  cases e <;> first | rfl | cases h
theorem star_any : ∀ {es : List Expr} (h : es.all noStar = true) (pos : Pos) (env : Env), (backTo pos (starEach es env)).any (·.1) = false
  | [], _, _, _ => rfl
  | e :: es, h, pos, env => by
    rw [List.all_cons, Bool.and_eq_true] at h
    rw [star_cons h.1]
    have ih := star_any h.2 pos env
    show (false || (backTo pos (starEach es env)).any (·.1)) = false
    rw [ih] <;> rfl
theorem star_all : ∀ {es : List Expr} (h : es.all noStar = true) (pos : Pos) (env : Env), (backTo pos (starEach es env)).all (fun x => !x.1) = true
  | [], _, _, _ => rfl
  | e :: es, h, pos, env => by
    rw [List.all_cons, Bool.and_eq_true] at h
    rw [star_cons h.1]
    have ih := star_all h.2 pos env
    show (!false && (backTo pos (starEach es env)).all (fun x => !x.1)) = true
    rw [ih] <;> rfl
theorem evalArgs_any {M : Model} {A : Around} {E : Value → Shared → Prop} {s : Shared} {f : Value} {l : List (Bool × Sem Value)} {Q : Args → Shared → Prop} (hl : l.any (·.1) = false) (h : wpAny M A (spliced l) (fun vs s' => Q ⟨vs, []⟩ s') E s) : wpAny M A (evalArgs f true l []) Q E s := by
  cases l with
  | nil =>
    show wpAny M A (spliced [] >>= _) Q E s
    refine wpAny_bind (wpAny_mono h ?_ fun _ _ z => z)
    intro us t q
    exact wpAny_holding (wpAny_bind (wpAny_pure (wpAny_bind (wpAny_pure (wpAny_pure q)))))
  | cons x l =>
    obtain ⟨b, x⟩ := x
    cases b with
    | true => cases hl
    | false => exact PySem.Calls.evalArgs_plain h
section
variable {G : Gt} {P : Fid → Option Fn} {k : Nat} {X : Cx} {W : WX} {es : List Expr} {ms : Sg → Hh → Res (List D)} {pos p apos : Pos} {x : Str}
/-- the arguments, then a call of a value of the written part -/
theorem args_go {f : Value} {first : List Value} {pins : List (Addr × Obj)} {s : Shared} {σ : L2.St} {H : Hp} {Qf : Value → Shared → Prop} {Qv : List V → Hp → Prop} (I : Inv X pins σ H s) (hk : PySem.W.keepIn X.K f = true) (hs : es.all noStar = true) (ha : PMs G X W es ms) (ht : tDs G X W ms σ H Qv)
    (go : ∀ us s1 vs H1, Inv X pins σ H1 s1 → Vals vs us → Qv vs H1 → wpAny (model X.prog X.w) X.A (call f (first ++ us)) Qf X.xe s1) :
    wpAny (model X.prog X.w) X.A (callWith pos f first (backTo pos (starEach es X.env)) []) Qf X.xe s := by
  exact PySem.W.callWith_of (P := fun h => X.K.In h) (by rw [star_any hs]; rfl) (PySem.W.keeps_K hk) (evalArgs_any (star_any hs _ _) (thn (ha.run pos pins s σ H Qv I ht) fun us s1 ⟨vs, H1, I1, r, q⟩ => ⟨I1.kIn, go us s1 vs H1 I1 r q⟩))
/-- f(..) -/
theorem pm_call {f : Fid} (hf : ∀ F, P f = some F → FnFact G P k X f F) (hr : Room (2 * k) X.A) (tk : Takes X W) (hg : Gl X x) (hm : X.mg x = some (.ref (G.fad f))) (hk : PySem.W.keepIn X.K (.ref (G.fad f)) = true) (hdb : (x == ("__debug__" : Str)) = false)
    (hs : es.all noStar = true) (ha : PMs G X W es ms) : PM G X W (.Call (.Name x p) es [] pos) (fun sg h => (ms sg h).bind fun xs h => callG P (runK P G.tb k) f xs h) := by
  refine ⟨fun pins s σ H Q I ⟨ρ, sg, h, S, R, o⟩ => ?_⟩
  refine wpAny_Call_Name_kw (ld_glob I hg hm ?_ hdb)
  refine args_go (Qv := fun vs H1 => ∃ ρ1 h1 ds, Sim X.K G ρ1 H1 h1 ∧ Reps X.K ρ1 H1 ds vs ∧ RD X G W σ ρ1 H1 Q (callG P (runK P G.tb k) f ds h1)) I hk hs ha ⟨ρ, sg, h, S, R, o.bind.imp fun ρ1 H1 h1 ds e1 S1 o1 vs rvs => ⟨ρ1, h1, ds, S1, rvs, o1⟩⟩ fun us s1 vs H1 I1 r ⟨ρ1, h1, ds, S1, rd, o1⟩ => ?_
  exact run_callZ hf hr tk I1 S1 rd r o1
/-- C(..) -/
theorem pm_make {c : Nm} {f : Fid} (hf : ∀ F, P f = some F → FnFact G P k X f F) (hr : Room (2 * k + 1) X.A) (tk : Takes X W) (M : Mk X.K (G.cad c) (G.fad f)) (C : ClsOk X.K G c) (hg : Gl X x) (hm : X.mg x = some (.ref (G.cad c))) (hdb : (x == ("__debug__" : Str)) = false)
    (hs : es.all noStar = true) (ha : PMs G X W es ms) : PM G X W (.Call (.Name x p) es [] pos) (fun sg h => (ms sg h).bind fun xs h => makeop (callG P (runK P G.tb k)) c f xs h) := by
  refine ⟨fun pins s σ H Q I ⟨ρ, sg, h, S, R, o⟩ => ?_⟩
  refine wpAny_Call_Name_kw (ld_glob I hg hm ?_ hdb)
  refine args_go (Qv := fun vs H1 => ∃ ρ1 h1 ds, Sim X.K G ρ1 H1 h1 ∧ Reps X.K ρ1 H1 ds vs ∧ RD X G W σ ρ1 H1 Q (makeop (callG P (runK P G.tb k)) c f ds h1)) I M.kp hs ha ⟨ρ, sg, h, S, R, o.bind.imp fun ρ1 H1 h1 ds e1 S1 o1 vs rvs => ⟨ρ1, h1, ds, S1, rvs, o1⟩⟩ fun us s1 vs H1 I1 r ⟨ρ1, h1, ds, S1, rd, o1⟩ => ?_
  exact run_makeZ hf hr tk M C I1 S1 rd r o1
theorem bm_slot {y : D} {m : Nm} {h1 : Hh} {k : Bm} (hrc : recv G.tb y m h1 = some (.bm k)) : PlainAttrs (bmTy k) ∧ Slot (bmTy k) (toS m) (bmId k) ∧ typeOf (.builtin (bmId k)) = pure (.type "method_descriptor") ∧
    ∀ ρ1 H1 v, Sim X.K G ρ1 H1 h1 → Rep X.K ρ1 H1 y v → tyV X.K (bmTy k) v H1 := by
  unfold recv at hrc
  split at hrc
  · obtain ⟨k', hrc, z⟩ := Option.map_eq_some_iff.mp hrc
    cases z
    unfold imOf at hrc
    split at hrc
    · rename_i e
      cases hrc
      subst e
      refine ⟨PySem.F.plainAttrs_int, PyProof.Rows.slot_int_bit_length, PyProof.Rows.type_int_bit_length, fun ρ1 H1 v S1 ry => ?_⟩
      rw [rep_int] at ry
      subst ry
      exact rfl
    · cases hrc
  · obtain ⟨k', hrc, z⟩ := Option.map_eq_some_iff.mp hrc
    cases z
    unfold tmOf at hrc
    split at hrc
    · rename_i e
      cases hrc
      subst e
      refine ⟨PySem.F.plainAttrs_str, PySem.F.slot_str_join, PySem.F.type_str_join, fun ρ1 H1 v S1 ry => ?_⟩
      obtain ⟨rfl, _⟩ := rep_str.mp ry
      exact rfl
    · cases hrc
  · split at hrc
    · split at hrc <;> cases hrc
    · rename_i n _ l e2
      have ty : ∀ ρ1 H1 v, Sim X.K G ρ1 H1 h1 → Rep X.K ρ1 H1 (.ref n) v → tyV X.K "list" v H1 := by
        intro ρ1 H1 v S1 ry
        obtain ⟨a, ws, rfl, _, h3, _⟩ := S1.lst e2 ry
        exact .inl ⟨rfl, ws, .inl (.inl h3)⟩
      obtain ⟨k', hrc, z⟩ := Option.map_eq_some_iff.mp hrc
      cases z
      unfold lmOf at hrc
      split at hrc
      · rename_i e; cases hrc; subst e
        exact ⟨PySem.F.plainAttrs_list, slot_list_append, type_list_append, ty⟩
      · split at hrc
        · rename_i e; cases hrc; subst e
          exact ⟨PySem.F.plainAttrs_list, PySem.F.slot_list_pop, PySem.F.type_list_pop, ty⟩
        · split at hrc
          · rename_i e; cases hrc; subst e
            exact ⟨PySem.F.plainAttrs_list, PySem.F.slot_list_extend, PySem.F.type_list_extend, ty⟩
          · split at hrc
            · rename_i e; cases hrc; subst e
              exact ⟨PySem.F.plainAttrs_list, PySem.F.slot_list_count, PySem.F.type_list_count, ty⟩
            · cases hrc
    · rename_i n _ l e2
      have ty : ∀ ρ1 H1 v, Sim X.K G ρ1 H1 h1 → Rep X.K ρ1 H1 (.ref n) v → tyV X.K "dict" v H1 := by
        intro ρ1 H1 v S1 ry
        obtain ⟨a, ws, rfl, _, h3, _⟩ := S1.dct e2 ry
        exact .inr (.inr (.inl ⟨rfl, .inl ⟨ws, h3⟩⟩))
      obtain ⟨k', hrc, z⟩ := Option.map_eq_some_iff.mp hrc
      cases z
      unfold dmOf at hrc
      split at hrc
      · rename_i e; cases hrc; subst e
        exact ⟨PySem.F.plainAttrs_dict, PySem.F.slot_dict_get, PySem.F.type_dict_get, ty⟩
      · split at hrc
        · rename_i e; cases hrc; subst e
          exact ⟨PySem.F.plainAttrs_dict, PySem.F.slot_dict_pop, PySem.F.type_dict_pop, ty⟩
        · cases hrc
    · cases hrc
  · cases hrc
/-- o.m(..) -/
theorem pm_mth {o : Expr} {m : Nm} {ma : Sg → Hh → Res D} (hx : x = toS m) (hf : ∀ f F, P f = some F → FnFact G P k X f F) (hr : Room (2 * k) X.A) (tk : Takes X W) (hu : X.A.units + 1 < cLine) (hb : attributeBase o x X.env (eval o X.env) = eval o X.env)
    (hl : (apos.endLine == pos.line) = true) (hn : es.length < 30) (hs : es.all noStar = true) (ho : PM G X W o ma) (ha : PMs G X W es ms) :
    PM G X W (.Call (.Attribute o x apos) es [] pos) (fun sg h => (ma sg h).bind fun y h => (ofOpt (recv G.tb y m h) h).bind fun r h => (ms sg h).bind fun xs h => methop (callG P (runK P G.tb k)) r y m xs h) := by
  refine ⟨fun pins s σ H Q I ⟨ρ, sg, h, S, R, out⟩ => ?_⟩
  replace out : RD X G W σ ρ H Q ((ma sg h).bind fun y h => (ofOpt (recv G.tb y m h) h).bind fun r h => (ms sg h).bind fun xs h => methop (callG P (runK P G.tb k)) r y m xs h) := out
  have few : methodCallForm (es.length + ([] : List Keyword).length) (backTo pos (starEach es X.env)) (backToKw pos (keywordEach [] X.env)) = true := by
    unfold methodCallForm
    rw [star_all hs]
    show (true && true && decide (es.length + 0 + 0 < 30)) = true
    rw [decide_eq_true (by omega)] <;> rfl
  -- by what receives the call
  have own : (∀ y h1, ma sg h = .ok y h1 → ∃ f, recv G.tb y m h1 = some (.ins f)) → wpAny (model X.prog X.w) X.A (eval (.Call (.Attribute o x apos) es [] pos) X.env) (EP X pins σ Q) X.xe s := by
    intro hrec
    have ht := mcall_of (pos := pos) (kws := []) hb fun ov => mcall_line (o := o) (m := x) (env := X.env) (ov := ov) few hl
    refine PySem.W.methodCall_KW (pl := plainOf o X.env) (thn (ho.run pins s σ H (fun v H1 => ∃ ρ1 h1 y f, ma sg h = .ok y h1 ∧ recv G.tb y m h1 = some (.ins f) ∧ Ext ρ H ρ1 H1 ∧ Sim X.K G ρ1 H1 h1 ∧ Rep X.K ρ1 H1 y v ∧
      RD X G W σ ρ1 H1 Q ((ms sg h1).bind fun xs h => callG P (runK P G.tb k) f (y :: xs) h)) I ⟨ρ, sg, h, S, R, ?_⟩) fun u s1 ⟨v, H1, I1, rv, ρ1, h1, y, f, hy, hrc, e1, S1, ry, o1⟩ => ?_) ht
    · cases hy : ma sg h with
      | ok y h1 =>
        obtain ⟨f, hrc⟩ := hrec y h1 hy
        rw [hy] at out
        simp only [Res.bind_ok, hrc, ofOpt_some] at out
        exact fun ρ1 H1 e1 S1 v rv => ⟨ρ1, h1, y, f, rfl, hrc, e1, S1, rv, out.ext e1⟩
      | exc c fs h1 => rw [hy] at out; exact out
      | bad => rw [hy] at out; exact out
    · unfold recv at hrc
      split at hrc
      · obtain ⟨_, _, z⟩ := Option.map_eq_some_iff.mp hrc
        cases z
      · obtain ⟨_, _, z⟩ := Option.map_eq_some_iff.mp hrc
        cases z
      · rename_i n
        split at hrc
        · rename_i c fs e2
          split at hrc
          · rename_i g em ef
            cases hrc
            obtain ⟨a, dx, vs, rfl, ha1, h2, h3, h4⟩ := S1.ins e2 ry
            obtain rfl : u = Value.ref a := rv
            subst hx
            refine getmeth_ok I1 h2 h4.cl (h4.mt m f em) ((h3.get m).2 ef) ?_
            refine args_go (first := [.ref a]) (Qv := fun vs H2 => ∃ ρ2 h2 ds, Ext ρ1 H1 ρ2 H2 ∧ Sim X.K G ρ2 H2 h2 ∧ Reps X.K ρ2 H2 ds vs ∧ RD X G W σ ρ2 H2 Q (callG P (runK P G.tb k) f (.ref n :: ds) h2)) I1 (h4.mt m f em).kp hs ha
              ⟨ρ1, sg, h1, S1, R.ext e1, o1.bind.imp fun ρ2 H2 h2 ds e2 S2 o2 vs rvs => ⟨ρ2, h2, ds, e2, S2, rvs, o2⟩⟩ fun us s2 vs H2 I2 r ⟨ρ2, h2, ds, e2, S2, rd, o2⟩ => ?_
            exact run_callZ (vs := .ref a :: vs) (hf f) hr tk I2 S2 (Reps.cons (Rep.ext e2 _ _ ry) rd) (.cons rfl r) o2
          · cases hrc
        · obtain ⟨_, _, z⟩ := Option.map_eq_some_iff.mp hrc
          cases z
        · obtain ⟨_, _, z⟩ := Option.map_eq_some_iff.mp hrc
          cases z
        · cases hrc
      · cases hrc
  -- a list's or a dict's method
  have few2 : ((backTo pos (starEach es X.env)).all (fun x => !x.1) && (backToKw pos (keywordEach [] X.env)).all (fun x => x.1.isSome) && decide (es.length + ([] : List Keyword).length + (if ([] : List Keyword).isEmpty then 0 else 1) < 30)) = true := few
  have bm : ∀ (T id : String) (z : Rk), PlainAttrs T → Slot T x id → typeOf (.builtin id) = pure (.type "method_descriptor") →
      (∀ y h1, ma sg h = .ok y h1 → recv G.tb y m h1 = some z ∧ ∀ ρ1 H1 v, Sim X.K G ρ1 H1 h1 → Rep X.K ρ1 H1 y v → tyV X.K T v H1) →
      (∀ y v ρ2 H2 h2 ds vs, Sim X.K G ρ2 H2 h2 → Rep X.K ρ2 H2 y v → Reps X.K ρ2 H2 ds vs → RD X G W σ ρ2 H2 Q (methop (callG P (runK P G.tb k)) z y m ds h2) → AnyM X id v vs H2 Q) →
      wpAny (model X.prog X.w) X.A (eval (.Call (.Attribute o x apos) es [] pos) X.env) (EP X pins σ Q) X.xe s := by
    intro T id z pa slot hty hrec hop
    refine wpAny_Call_method_late hb few2 hl rfl (thn (ho.run pins s σ H (fun v H1 => ∃ ρ1 h1 y, ma sg h = .ok y h1 ∧ Ext ρ H ρ1 H1 ∧ Sim X.K G ρ1 H1 h1 ∧ Rep X.K ρ1 H1 y v ∧
      RD X G W σ ρ1 H1 Q ((ms sg h1).bind fun xs h => methop (callG P (runK P G.tb k)) z y m xs h)) I ⟨ρ, sg, h, S, R, ?_⟩) fun u s1 ⟨v, H1, I1, rv, ρ1, h1, y, hy, e1, S1, ry, o1⟩ => ?_)
    · cases hy : ma sg h with
      | ok y h1 =>
        rw [hy] at out
        simp only [Res.bind_ok, (hrec y h1 hy).1, ofOpt_some] at out
        exact fun ρ1 H1 e1 S1 v rv => ⟨ρ1, h1, y, rfl, e1, S1, rv, out.ext e1⟩
      | exc c fs h1 => rw [hy] at out; exact out
      | bad => rw [hy] at out; exact out
    · obtain ⟨q1, q2⟩ := tyV_is I1 rv ((hrec y h1 hy).2 ρ1 H1 v S1 ry)
      refine ⟨T, id, pa, slot, hty, q1, q2, Calls.callWith_builtin (star_any hs _ _) (evalArgs_any (star_any hs _ _) ?_)⟩
      refine thn (ha.run pos pins s1 σ H1 (fun vs H2 => ∃ ρ2 h2 ds, Ext ρ1 H1 ρ2 H2 ∧ Sim X.K G ρ2 H2 h2 ∧ Reps X.K ρ2 H2 ds vs ∧ RD X G W σ ρ2 H2 Q (methop (callG P (runK P G.tb k)) z y m ds h2)) I1
        ⟨ρ1, sg, h1, S1, R.ext e1, o1.bind.imp fun ρ2 H2 h2 ds e2 S2 o2 vs rvs => ⟨ρ2, h2, ds, e2, S2, rvs, o2⟩⟩) fun us s2 ⟨vs, H2, I2, r, ρ2, h2, ds, e2, S2, rd, o2⟩ => ?_
      exact hop y v ρ2 H2 h2 ds vs S2 (Rep.ext e2 _ _ ry) rd o2 pins s2 σ u us I2 rv r
  cases hy : ma sg h with
  | bad => rw [hy] at out; exact False.elim out
  | exc c fs h1 => exact own fun y h1 e => by rw [hy] at e; cases e
  | ok y h1 =>
    cases hrc : recv G.tb y m h1 with
    | none => rw [hy] at out; simp only [Res.bind_ok, hrc] at out; exact False.elim out
    | some r =>
      cases r with
      | ins f => exact own fun y' h1' e => by rw [hy] at e; cases e; exact ⟨f, hrc⟩
      | bm k =>
        obtain ⟨b1, b2, b3, b4⟩ := bm_slot (X := X) hrc
        refine bm (bmTy k) (bmId k) (.bm k) b1 (by subst hx; exact b2) b3 (fun y' h1' e => ?_) fun y v ρ2 H2 h2 ds vs S2 ry rd o2 => bmeth_ok hu S2 ry rd o2
        rw [hy] at e; cases e
        exact ⟨hrc, b4⟩
/-- a built-in function, a built-in type -/
theorem bf_go {f : Value} {pins : List (Addr × Obj)} {s : Shared} {σ : L2.St} {H : Hp} {Qf : Value → Shared → Prop} {Qv : List V → Hp → Prop} (hf : (∃ id, f = .builtin id) ∨ ∃ T, f = .type T) (I : Inv X pins σ H s) (hs : es.all noStar = true)
    (ht : wpAny (model X.prog X.w) X.A (spliced (backTo pos (starEach es X.env))) (fun us s1 => wpAny (model X.prog X.w) X.A (call f us) Qf X.xe s1) X.xe s) :
    wpAny (model X.prog X.w) X.A (callWith pos f [] (backTo pos (starEach es X.env)) []) Qf X.xe s := by
  rcases hf with ⟨id, rfl⟩ | ⟨T, rfl⟩
  · exact Calls.callWith_builtin (star_any hs _ _) (evalArgs_any (star_any hs _ _) ht)
  · exact PySem.callWith_type (star_any hs _ _) (evalArgs_any (star_any hs _ _) ht)
theorem bfV_is (f : Bf) : (∃ id, bfV f = .builtin id) ∨ ∃ T, bfV f = .type T := by
  cases f <;> first | exact .inl ⟨_, rfl⟩ | exact .inr ⟨_, rfl⟩
theorem pm_blt {f : Bf} (hc : X.calm = true) (hne : ∀ vs, bfA f vs = vs) (hg : Gl X x) (hm : X.mg x = none) (hv : bootBuiltins x = some (bfV f)) (hn : x ≠ "__name__") (hdb : (x == ("__debug__" : Str)) = false)
    (hs : es.all noStar = true) (ha : PMs G X W es ms) : PM G X W (.Call (.Name x p) es [] pos) (fun sg h => (ms sg h).bind fun xs h => bltop f xs h) := by
  refine ⟨fun pins s σ H Q I ⟨ρ, sg, h, S, R, o⟩ => ?_⟩
  refine wpAny_Call_Name_kw (ld_blt I hg hm hv ?_ hn hdb)
  refine bf_go (Qv := fun _ _ => True) (bfV_is f) I hs (thn (ha.run pos pins s σ H (fun vs H1 => AnyC X (bfV f) vs H1 Q) I ⟨ρ, sg, h, S, R, o.bind.imp fun ρ1 H1 h1 ds e1 S1 o1 vs rvs => ?_⟩) fun us s1 ⟨vs, H1, I1, r, q⟩ => q pins s1 σ us I1 r)
  have := bltop_ok hc S1 rvs o1
  rw [hne] at this
  exact this
/-- isinstance(e, T) -/
theorem pm_isa {e : Expr} {T : String} {tn : Str} {m : Sg → Hh → Res D} {p2 : Pos} (hc : X.calm = true) (hg : Gl X x) (hm : X.mg x = none) (hv : bootBuiltins x = some (.builtin "isinstance")) (hn : x ≠ "__name__") (hdb : (x == ("__debug__" : Str)) = false)
    (hg2 : Gl X tn) (hm2 : X.mg tn = none) (hv2 : bootBuiltins tn = some (.type T)) (hn2 : tn ≠ "__name__") (hdb2 : (tn == ("__debug__" : Str)) = false)
    (hs : noStar e = true) (ha : PM G X W e m) : PM G X W (.Call (.Name x p) [e, .Name tn p2] [] pos) (fun sg h => ((m sg h).bind fun x h => .ok [x] h).bind fun xs h => bltop (.isa T) xs h) := by
  refine ⟨fun pins s σ H Q I ⟨ρ, sg, h, S, R, o⟩ => ?_⟩
  refine wpAny_Call_Name_kw (ld_blt I hg hm hv ?_ hn hdb)
  have ha2 := pa_cons ha (pa_cons (pe_bltn (pos := p2) hg2 hm2 hv2 (v := V.ty T) rfl hn2 hdb2) pa_nil rfl) (star_cons hs [.Name tn p2] X.env)
  refine bf_go (Qv := fun _ _ => True) (.inl ⟨_, rfl⟩) I (by show (noStar e && (true && true)) = true; rw [hs] <;> rfl) (thn (ha2.run pos pins s σ H (fun vs H1 => AnyC X (.builtin "isinstance") vs H1 Q) I ⟨ρ, sg, h, S, R, o.bind.bind.imp fun ρ1 H1 h1 d e1 S1 o1 v rv => ?_⟩) fun us s1 ⟨vs, H1, I1, r, q⟩ => q pins s1 σ us I1 r)
  have := bltop_ok hc S1 (Reps.cons rv Reps.nil) (Out.now S1 o1)
  exact this
/-- sorted(set(e)) -/
theorem pm_sset {e : Expr} {m : Sg → Hh → Res D} {x2 : Str} {p2 q : Pos} (hc : X.calm = true) (hx : x = "sorted") (hx2 : x2 = "set") (hg : Gl X x) (hm : X.mg x = none) (hg2 : Gl X x2) (hm2 : X.mg x2 = none) (hs : noStar e = true) (ha : PM G X W e m) :
    PM G X W (.Call (.Name x p) [.Call (.Name x2 p2) [e] [] q] [] pos) (fun sg h => (m sg h).bind fun x h => ssetop x h) := by
  subst hx hx2
  refine ⟨fun pins s σ H Q I ⟨ρ, sg, h, S, R, o⟩ => ?_⟩
  refine Call_ (ld_blt I hg hm boot_sorted ?_)
  refine PyProof.Rows.callWith_builtin1 (PyProof.Rows.args_cons ?_ rfl) rfl rfl
  refine Call_ (ld_blt I hg2 hm2 boot_set ?_)
  refine PyProof.Rows.callWith_type1 (PyProof.Rows.args_cons (thn (ha.run pins s σ H (fun v H1 => ∃ ρ1 h1 d, Sim X.K G ρ1 H1 h1 ∧ Rep X.K ρ1 H1 d v ∧ RD X G W σ ρ1 H1 Q (ssetop d h1)) I ⟨ρ, sg, h, S, R, o.bind.imp fun ρ1 H1 h1 d e1 S1 o1 v rv => ⟨ρ1, h1, d, S1, rv, o1⟩⟩)
    fun u s1 ⟨v, H1, I1, ru, ρ1, h1, d, S1, rd, o1⟩ => PyProof.Rows.args_nil ?_) (star_cons hs [] X.env)) (by rw [star_cons hs [] X.env] <;> rfl) rfl
  exact wpAny_mono (sset_go hc I1 S1 rd ru o1) (fun z t k => PyProof.Rows.args_nil k) fun _ _ k => k
/-- tuple(zip(a, b)) -/
theorem pm_tzip {x2 : Str} {p2 q : Pos} (hc : X.calm = true) (hx : x = "tuple") (hx2 : x2 = "zip") (hg : Gl X x) (hm : X.mg x = none) (hg2 : Gl X x2) (hm2 : X.mg x2 = none) (hs : es.all noStar = true) (ha : PMs G X W es ms) :
    PM G X W (.Call (.Name x p) [.Call (.Name x2 p2) es [] q] [] pos) (fun sg h => (ms sg h).bind fun xs h => tzipL xs h) := by
  subst hx hx2
  refine ⟨fun pins s σ H Q I ⟨ρ, sg, h, S, R, o⟩ => ?_⟩
  refine Call_ (ld_blt I hg hm boot_tuple ?_)
  refine PyProof.Rows.callWith_type1 (PyProof.Rows.args_cons ?_ rfl) rfl rfl
  refine Call_ (ld_blt I hg2 hm2 boot_zip ?_)
  refine PySem.callWith_type (star_any hs _ _) (evalArgs_any (star_any hs _ _) (thn (ha.run q pins s σ H (fun vs H1 => ∃ ρ1 h1 ds, Sim X.K G ρ1 H1 h1 ∧ Reps X.K ρ1 H1 ds vs ∧ RD X G W σ ρ1 H1 Q (tzipL ds h1)) I ⟨ρ, sg, h, S, R, o.bind.imp fun ρ1 H1 h1 ds e1 S1 o1 vs rvs => ⟨ρ1, h1, ds, S1, rvs, o1⟩⟩)
    fun us s1 ⟨vs, H1, I1, ru, ρ1, h1, ds, S1, rd, o1⟩ => ?_))
  match ds, o1 with
  | [d, e], o1 =>
    rw [Reps] at rd
    obtain ⟨v, vs1, rfl, r1, rd⟩ := rd
    rw [Reps] at rd
    obtain ⟨v2, vs2, rfl, r2, rd⟩ := rd
    rw [Reps] at rd
    subst rd
    obtain ⟨u, u2, rfl, a1, a2⟩ := ru.two
    exact wpAny_mono (tzip_go hc I1 S1 r1 r2 a1 a2 o1) (fun z t k => PyProof.Rows.args_nil k) fun _ _ k => k
  | [], o1 => exact False.elim o1
  | [_], o1 => exact False.elim o1
  | _ :: _ :: _ :: _, o1 => exact False.elim o1
end
end Z

/-! ZG: targets, statements, loops. -/
namespace Z
open PySem PySem.Spec PyProof.Rows L2

abbrev F0 : WX := fun _ _ _ _ => False
section
variable {G : Gt} {X : Cx} {W : WX} {σ σ' : L2.St} {ρ ρ' : List Addr} {H H' : Hp} {α β : Type}
theorem Out.any {K : PySem.W.Frag} {P : List Addr → Hp → Hh → α → Prop} {r : Res α} (o : Out K G F0 σ ρ H P r) : Out K G F0 σ' ρ H P r := by
  cases r with
  | ok a h => exact o
  | exc c fs h => exact o
  | bad => exact o
theorem Out.wide {K : PySem.W.Frag} {P : List Addr → Hp → Hh → α → Prop} {r : Res α} (o : Out K G F0 σ ρ H P r) : Out K G W σ' ρ H P r := by
  cases r with
  | ok a h => exact o
  | exc c fs h => exact fun ρ1 H1 d e S x => False.elim (o ρ1 H1 d e S x)
  | bad => exact o
theorem Out.calm {K : PySem.W.Frag} {P : List Addr → Hp → Hh → α → Prop} {r : Res α} (o : Out K G W σ ρ H P r.calm) : Out K G F0 σ' ρ H P r := by
  cases r with
  | ok a h => exact o
  | exc c fs h => exact False.elim o
  | bad => exact o
/-- the base stays -/
theorem Out.bind0 {K : PySem.W.Frag} {P : List Addr → Hp → Hh → β → Prop} {r : Res α} {f : α → Hh → Res β} (o : Out K G W σ ρ H P (r.bind f)) : Out K G W σ ρ H (fun _ _ h1 a => Out K G W σ ρ H P (f a h1)) r := by
  cases r with
  | ok a h => exact fun ρ1 H1 e S => o
  | exc c fs h => exact o
  | bad => exact o
theorem Out.st {D : Ends} {r : Res α} {sg : Sg} {f : α → Hh → Res (Fl × Sg)} (R : RepS X.K ρ H sg σ) (o : Out X.K G F0 σ ρ H (fun ρ' H' _ p => EndR G X W D ρ' H' p) (r.st sg f)) :
    Out X.K G W σ ρ H (fun ρ1 H1 h1 a => Out X.K G F0 σ ρ1 H1 (fun ρ' H' _ p => EndR G X W D ρ' H' p) (f a h1)) r := by
  cases r with
  | ok a h => exact fun ρ1 H1 e S => o.ext e
  | exc c fs h => exact fun ρ' H' d e S x => o ρ' H' e S σ (R.ext e) d x
  | bad => exact o

abbrev PSM (G : Gt) (X : Cx) (W : WX) (st : Stmt) (m : Sg → Hh → Res (Fl × Sg)) : Prop := PS X st (tSt G X W m)
abbrev PSsM (G : Gt) (X : Cx) (W : WX) (sts : List Stmt) (m : Sg → Hh → Res (Fl × Sg)) : Prop := PSs X sts (tSt G X W m)
abbrev PGM (G : Gt) (X : Cx) (W : WX) (e : Expr) (ns : List Nat) (m : D → Sg → Hh → Res Sg) : Prop := PG X e (tTg G X W ns m)
abbrev PGsM (G : Gt) (X : Cx) (es : List Expr) (ns : List Nat) (m : List D → Sg → Hh → Res Sg) : Prop := PGs X es (tTgs G X ns m)
theorem PGs.mono {es : List Expr} {t t' : TGs} (h : PGs X es t) (m : ∀ v σ H Q, t' v σ H Q → t v σ H Q) : PGs X es t' := ⟨fun pins s σ H v u Q I r q => h.run pins s σ H v u Q I r (m v σ H Q q)⟩
theorem Same.refl (ns : List Nat) (σ : L2.St) : Same ns σ σ := ⟨rfl, fun _ _ => rfl⟩
theorem Same.set {i : Nat} {v : Option V} {ns : List Nat} (h : i ∈ ns) : Same ns σ (σ.set i v) := ⟨by simp, fun j hj => List.getElem?_set_ne fun e => hj (by rw [← e]; exact h)⟩
theorem Same.trans {ns : List Nat} {σ1 σ2 σ3 : L2.St} (a : Same ns σ1 σ2) (b : Same ns σ2 σ3) : Same ns σ1 σ3 := ⟨b.1.trans a.1, fun j hj => (b.2 j hj).trans (a.2 j hj)⟩
theorem Same.sub {ns ms : List Nat} {σ1 σ2 : L2.St} (a : Same ns σ1 σ2) (h : ∀ i ∈ ns, i ∈ ms) : Same ms σ1 σ2 := ⟨a.1, fun j hj => a.2 j fun z => hj (h j z)⟩
theorem wipe_get (σ : L2.St) : ∀ (vs : List Nat) (j : Nat), (L2.wipe σ vs)[j]? = if j ∈ vs ∧ j < σ.length then some none else σ[j]?
  | [], j => by simp [L2.wipe]
  | v :: vs, j => by
    unfold L2.wipe
    by_cases e : v = j
    · subst e
      by_cases hl : v < σ.length
      · rw [List.getElem?_set_self (by rw [L2.wipe_length]; exact hl)]
        simp [hl]
      · rw [List.getElem?_eq_none (by simp [L2.wipe_length]; omega), if_neg (fun z => hl z.2), List.getElem?_eq_none (by omega)]
    · rw [List.getElem?_set_ne e, wipe_get σ vs j]
      have : j ≠ v := fun z => e z.symm
      simp [this]
theorem Same.wipe {ns : List Nat} {σ1 σ2 : L2.St} (a : Same ns σ1 σ2) : L2.wipe σ2 ns = L2.wipe σ1 ns := by
  apply List.ext_getElem?
  intro j
  rw [wipe_get, wipe_get, a.1]
  split
  · rfl
  · rename_i h
    by_cases hj : j ∈ ns
    · have : ¬ j < σ1.length := fun z => h ⟨hj, z⟩
      rw [List.getElem?_eq_none (by rw [a.1]; omega), List.getElem?_eq_none (by omega)]
    · exact a.2 j hj
theorem wipe_twice (σ : L2.St) (ns : List Nat) : L2.wipe (L2.wipe σ ns) ns = L2.wipe σ ns := by
  apply List.ext_getElem?
  intro j
  rw [wipe_get, wipe_get, L2.wipe_length]
  split <;> rfl

/-! ### targets -/
variable {pos : Pos}
theorem pgm_nm {i : Nat} {x : Str} {ns : List Nat} (hN : X.N.Nodup) (hi : X.N[i]? = some x) (hx : Loc X.env.scope x) (hf : X.fn x = true ∨ X.env.scope.names.lookup x = some .local) (hn : i ∈ ns) :
    PGM G X W (.Name x pos) ns (fun v sg h => if i < sg.length then .ok (sg.set i (some v)) h else .bad) := by
  refine PG.mono (pg_name hN hi hx hf) fun v σ H Q ⟨ρ, sg, h, d, S, R, rv, o⟩ => ?_
  dsimp only at o
  split at o
  · exact Out.now S o _ (R.set i rv) (Same.set hn)
  · exact False.elim o
theorem pgm_ix {a b : Expr} {ma mb : Sg → Hh → Res D} {ns : List Nat} (hu : X.A.units + 1 < cLine) (ha : PM G X W a ma) (hb : PM G X W b mb)
    (hs : ∀ v, assign (.Subscript a b pos) X.env v = (do
      let ov ← holding [v] (eval a X.env)
      let iv ← holding [v, ov] (eval b X.env)
      standAt pos
      holding [v, ov, iv] (setItem ov iv v)
      release [v, ov, iv] [])) :
    PGM G X W (.Subscript a b pos) ns (fun v sg h => (ma sg h).bind fun x h => (mb sg h).bind fun y h => (setix x y v h).bind fun _ h => .ok sg h) := by
  refine PG.mono (pg_sub ha hb anyP hs) fun v σ H Q ⟨ρ, sg, h, d, S, R, rv, o⟩ => ⟨ρ, sg, h, S, R, o.bind.imp fun ρ1 H1 h1 x e1 S1 o1 vx rx => ⟨ρ1, sg, h1, S1, R.ext e1, o1.bind.imp fun ρ2 H2 h2 y e2 S2 o2 vy ry => ?_⟩⟩
  refine setix_ok (W := W) (σ := σ) hu S2 (Rep.ext e2 _ _ rx) ry (Rep.ext (e1.trans e2) _ _ rv) (o2.bind.imp fun ρ3 H3 h3 _ e3 S3 o3 => ?_)
  exact Out.now S3 o3 σ ((R.ext e1).ext e2 |>.ext e3) (Same.refl _ _)
theorem pgsm_nil {ns : List Nat} : PGsM G X [] ns (fun l sg h => match l with | [] => .ok sg h | _ => .bad) := by
  refine PGs.mono pgs_nil fun vs σ H Q ⟨ρ, sg, h, ds, S, R, rv, o⟩ => ?_
  cases ds with
  | nil => rw [Reps] at rv; subst rv; exact ⟨rfl, Out.now S o σ R (Same.refl _ _)⟩
  | cons d ds => exact False.elim o
theorem pgsm_cons {e : Expr} {es : List Expr} {m : D → Sg → Hh → Res Sg} {ms : List D → Sg → Hh → Res Sg} {ns : List Nat} (h1 : PGM G X W e ns m) (h2 : PGsM G X es ns ms)
    (hs : (assignEach (e :: es) X.env).map (·.2) = assign e X.env :: (assignEach es X.env).map (·.2)) :
    PGsM G X (e :: es) ns (fun l sg h => match l with | v :: vs => (m v sg h).bind fun sg h => ms vs sg h | [] => .bad) := by
  refine PGs.mono (pgs_cons h1 h2 hs) fun vs σ H Q ⟨ρ, sg, h, ds, S, R, rv, o⟩ => ?_
  cases ds with
  | nil => exact False.elim o
  | cons d ds =>
    rw [Reps] at rv
    obtain ⟨v, ws, rfl, r1, r2⟩ := rv
    refine ⟨v, ws, rfl, ρ, sg, h, d, S, R, r1, Out.wide (o.bind.imp fun ρ1 H1 h1 sg1 e1 S1 o1 σ1 R1 sm => ⟨ρ1, sg1, h1, ds, S1, R1, Reps.ext e1 _ _ r2, ?_⟩)⟩
    exact o1.any.imp fun ρ2 H2 h2 sg2 e2 S2 o2 σ2 R2 sm2 => o2 σ2 R2 (sm.trans sm2)
theorem pgm_tup {es : List Expr} {k : Nat} {ms : List D → Sg → Hh → Res Sg} {n : Nat} {ns : List Nat} (hc : X.calm = true) (h : PGsM G X es ns ms)
    (hn : (assignEach es X.env).length = n) (hst : (assignEach es X.env).findIdx? (·.1) = none) :
    PGM G X W (.Tuple es k pos) ns (fun v sg h => match v with | .tup l => if l.length = n then (ms l sg h).calm else .bad | _ => .bad) := by
  refine PG.mono (pg_tup hc h hn hst) fun v σ H Q ⟨ρ, sg, h, d, S, R, rv, o⟩ => ?_
  dsimp only at o
  split at o
  · rename_i l
    split at o
    · rename_i hl
      rw [Rep] at rv
      obtain ⟨a, vs, rfl, h1, h2⟩ := rv
      exact ⟨a, vs, rfl, h1, by rw [← h2.length]; exact hl, ρ, sg, h, l, S, R, h2, o.calm⟩
    · exact False.elim o
  · exact False.elim o

/-! ### statements -/
variable {a b e c : Expr} {ma mb me : Sg → Hh → Res D}
theorem psm_asg {tg : Expr} {mt : D → Sg → Hh → Res Sg} {ns : List Nat} (he : PM G X W e me) (hg : PGM G X W tg ns mt) (hs : swapsWithSole [tg] e pos.line X.env = pure false) (hw : swappedStores [tg] e X.env = pure none)
    (h1 : (assignEach [tg] X.env).map (·.2) = [assign tg X.env]) : PSM G X W (.Assign [tg] e pos) (fun sg h => (me sg h).st sg fun v h => (mt v sg h).st sg fun sg h => .ok (.nx, sg) h) := by
  refine PS.mono (ps_asg he hg hs hw h1) fun D σ H ⟨ρ, sg, h, S, R, o⟩ => ⟨ρ, sg, h, S, R, (Out.st R o).imp fun ρ1 H1 h1 d e1 S1 o1 v rv => ⟨ρ1, sg, h1, d, S1, R.ext e1, rv, (Out.st (R.ext e1) o1).imp fun ρ2 H2 h2 sg2 e2 S2 o2 σ2 R2 _ => ?_⟩⟩
  exact Out.now S2 o2 σ2 R2
theorem psm_fld {o : Expr} {f : Nm} {x : Str} {pos' : Pos} (hx : x = toS f) (hv : PM G X W e me) (ha : PM G X W o ma) (hs : swapsWith e (some (.Attribute o x pos')) pos.line X.env = pure false) :
    PSM G X W (.Assign [.Attribute o x pos'] e pos) (fun sg h => (me sg h).st sg fun v h => ((ma sg h).bind fun x h => (setfl G.tb x f v h).bind fun _ h => .ok sg h).st sg fun sg h => .ok (.nx, sg) h) := by
  subst hx
  refine PS.mono (ps_fld ha hv hs) fun D σ H ⟨ρ, sg, h, S, R, out⟩ => ⟨ρ, sg, h, S, R, (Out.st R out).imp fun ρ1 H1 h1 d e1 S1 o1 v rv => ?_⟩
  refine ⟨ρ1, sg, h1, S1, R.ext e1, (Out.st (R.ext e1) o1).bind.imp fun ρ2 H2 h2 y e2 S2 o2 w rw => ?_⟩
  refine setfl_ok (W := W) (σ := σ) S2 rw (Rep.ext e2 _ _ rv) (o2.bind.imp fun ρ3 H3 h3 _ e3 S3 o3 => ?_)
  have o4 := Out.now S3 o3
  exact Out.now S3 o4 σ ((R.ext e1).ext e2 |>.ext e3)

/-- x op= y, by values -/
def AnyA (X : Cx) (op : Operator) : V → V → Hp → VK → Prop := fun x y H Q => ∀ (pins : List (Addr × Obj)) (s : Shared) (σ : L2.St) (v u : Value), Inv X pins σ H s → RelV x v → RelV y u → wpAny (model X.prog X.w) X.A (inplaceOp op v u) (EP X pins σ Q) X.xe s
theorem anyA {op : Operator} : PIp X op (AnyA X op) := fun pins s σ H x y v u Q I rx ry k => k pins s σ v u I rx ry
theorem anyAI {op : Operator} : InOp X op (AnyA X op) := fun pins s σ H x y v u Q I rx ry k => k pins s σ v u I rx ry
theorem AnyA.of {op : Operator} {r : TIp} {x y : V} {Q : VK} (o : PIp X op r) (k : r x y H Q) : AnyA X op x y H Q := fun pins s σ v u I rx ry => o pins s σ H x y v u Q I rx ry k
theorem ip_str : PIp X .Add (fun x y H Q => ∃ a b : Str, x = .str a ∧ y = .str b ∧ a.length + b.length ≤ sizeLine ∧ Q (.str (a ++ b)) H) := by
  intro pins s σ H x y v u Q I rx ry ⟨a, b, ea, eb, hl, q⟩
  subst ea eb
  obtain ⟨t, rfl⟩ := rx
  obtain ⟨t', rfl⟩ := ry
  exact PySem.SB.iadd (fun t2 k => ⟨.str (a ++ b), H, I.tok _, ⟨t2, rfl⟩, q⟩) hl
theorem augop_ok {op : Operator} {x y : D} {vx vy : V} {h : Hh} {Q : VK} (S : Sim X.K G ρ H h) (rx : Rep X.K ρ H x vx) (ry : Rep X.K ρ H y vy) (o : RD X G W σ ρ H Q (augop op x y h)) : AnyA X op vx vy H Q := by
  unfold augop at o
  split at o
  · rw [rep_int] at rx ry
    subst rx ry
    exact .of ip_add ⟨_, _, rfl, rfl, RD.val S o (rep_int.mpr rfl)⟩
  · rw [rep_int] at rx ry
    subst rx ry
    exact .of ip_sub ⟨_, _, rfl, rfl, RD.val S o (rep_int.mpr rfl)⟩
  · split at o
    · rename_i hl
      rw [rep_str] at rx ry
      obtain ⟨rfl, o1⟩ := rx
      obtain ⟨rfl, o2⟩ := ry
      refine .of ip_str ⟨_, _, rfl, rfl, by rw [toS_len, toS_len, ← SZ_eq]; exact hl, RD.val S o (rep_str.mpr ⟨by rw [toS_app], okS_app o1 o2 hl⟩)⟩
    · exact False.elim o
  · exact False.elim o
theorem psm_aug {i : Nat} {x : Str} {op : Operator} {pos' : Pos} {m : Sg → Hh → Res (Fl × Sg)} (hN : X.N.Nodup) (hi : X.N[i]? = some x) (hx : Loc X.env.scope x) (hf : X.fn x = true ∨ X.env.scope.names.lookup x = some .local) (he : PM G X W e me)
    (hm : ∀ sg h, m sg h = match sg[i]? with | some (some x) => (me sg h).st sg fun y h => (augop op x y h).st sg fun z h => .ok (.nx, sg.set i (some z)) h | _ => .bad) : PSM G X W (.AugAssign (.Name x pos') op e pos) m := by
  refine PS.mono (ps_aug hN hi hx he anyA hf) fun D σ H ⟨ρ, sg, h, S, R, o⟩ => ?_
  rw [hm] at o
  split at o
  · rename_i d e1
    obtain ⟨v, h1, h2⟩ := R.val i d e1
    refine ⟨v, h1, ρ, sg, h, S, R, (Out.st R o).imp fun ρ1 H1 h1 y e1 S1 o1 w rw => ?_⟩
    refine augop_ok S1 (Rep.ext e1 _ _ h2) rw ((Out.st (R.ext e1) o1).imp fun ρ2 H2 h2 z e2 S2 o2 u ru => ?_)
    exact Out.now S2 o2 _ (((R.ext e1).ext e2).set i ru)
  · exact False.elim o
theorem psm_augf {o : Expr} {f : Nm} {x : Str} {op : Operator} {tpos : Pos} (hx : x = toS f) (ha : PM G X W o ma) (he : PM G X W e me) :
    PSM G X W (.AugAssign (.Attribute o x tpos) op e pos) (fun sg h => (ma sg h).st sg fun x h => (getfl x f h).st sg fun u h => (me sg h).st sg fun y h => (augop op u y h).st sg fun z h => (setfl G.tb x f z h).st sg fun _ h => .ok (.nx, sg) h) := by
  subst hx
  refine ⟨fun pins s σ H D I ⟨ρ, sg, h, S, R, out⟩ => ?_⟩
  refine wpAny_AugAssign_AttributeAny (thn (ha.run pins s σ H (fun v H1 => ∃ ρ1 h1 d, Ext ρ H ρ1 H1 ∧ Sim X.K G ρ1 H1 h1 ∧ Rep X.K ρ1 H1 d v ∧
    Out X.K G F0 σ ρ1 H1 (fun ρ' H' _ p => EndR G X W D ρ' H' p) ((getfl d f h1).st sg fun u h => (me sg h).st sg fun y h => (augop op u y h).st sg fun z h => (setfl G.tb d f z h).st sg fun _ h => .ok (.nx, sg) h)) I
    ⟨ρ, sg, h, S, R, (Out.st R out).imp fun ρ1 H1 h1 d e1 S1 o1 v rv => ⟨ρ1, h1, d, e1, S1, rv, o1⟩⟩) fun ov s1 ⟨v, H1, I1, rov, ρ1, h1, d, e1, S1, rv, o1⟩ => ?_)
  obtain ⟨a, C, dx, fs, w, rfl, q1, q2, q3, q4, ρ2, h2, u, e2, S2, ru, o2⟩ := getfl_ok (W := W) (σ := σ) (Q := fun w H1' => (∃ ρ2 h2 u, Ext ρ1 H1 ρ2 H1' ∧ Sim X.K G ρ2 H1' h2 ∧ Rep X.K ρ2 H1' u w ∧
    Out X.K G F0 σ ρ2 H1' (fun ρ' H' _ p => EndR G X W D ρ' H' p) ((me sg h2).st sg fun y h => (augop op u y h).st sg fun z h => (setfl G.tb d f z h).st sg fun _ h => .ok (.nx, sg) h))) S1 rv ((Out.st (R.ext e1) o1).imp fun ρ2 H2 h2 u e2 S2 o2 w rw => ⟨ρ2, h2, u, e2, S2, rw, o2⟩)
  obtain rfl : ov = Value.ref a := rov
  have R2 := (R.ext e1).ext e2
  refine getattr_ok I1 q1 q2 q3 q4 fun u' s2 I2 ru' => thn (he.run pins s2 σ H1 (fun y H3 => AnyA X op w y H3 fun z H4 => ∃ a' C' dx' fs', V.ref a = .ref a' ∧ H4 a' = some (.ins C' dx' fs') ∧ Cls X.K C' ∧ NoAttr X.K C' (toS f) ∧ fs'.length < 1000 ∧ D.nx σ (upd H4 a' (.ins C' dx' (putF (toS f) z fs')))) I2
    ⟨ρ2, sg, h2, S2, R2, (Out.st R2 o2).imp fun ρ3 H3 h3 y e3 S3 o3 vy ry => ?_⟩) fun w3 s3 ⟨y, H3, I3, ry, k⟩ => thn (k pins s3 σ u' w3 I3 ru' ry) fun w4 s4 ⟨z, H4, I4, rz, a', C', dx', fs', ea, p1, p2, p3, p4, p5⟩ => ?_
  · refine augop_ok (W := W) (σ := σ) S3 (Rep.ext e3 _ _ ru) ry ((Out.st (R2.ext e3) o3).imp fun ρ4 H4 h4 z e4 S4 o4 vz rz => ?_)
    exact setfl_ok (W := W) (σ := σ) (Q := fun H5 => D.nx σ H5) S4 (Rep.ext e4 _ _ (Rep.ext e3 _ _ (Rep.ext e2 _ _ rv))) rz ((Out.st ((R2.ext e3).ext e4) o4).imp fun ρ5 H5 h5 _ e5 S5 o5 => Out.now S5 o5 σ (((R2.ext e3).ext e4).ext e5))
  · cases ea
    exact setattr_ok I4 p1 p2 p3 p4 rz fun s5 I5 => ⟨σ, _, I5, p5⟩
def AnyG (X : Cx) : V → V → Hp → VK → Prop := fun o i H Q => ∀ (pins : List (Addr × Obj)) (s : Shared) (σ : L2.St) (ov iv : Value), Inv X pins σ H s → RelV o ov → RelV i iv → wpAny (model X.prog X.w) X.A (getItem ov iv) (EP X pins σ Q) X.xe s
theorem anyG : PGet X (AnyG X) := fun pins s σ H o i ov iv Q I ro ri k => k pins s σ ov iv I ro ri
theorem getitem_ok {x y : D} {vx vy : V} {h : Hh} {Q : VK} (hu : X.A.units + 1 < cLine) (S : Sim X.K G ρ H h) (rx : Rep X.K ρ H x vx) (ry : Rep X.K ρ H y vy) (hk : augOk x y h = true) (o : RD X G W σ ρ H Q (getix x y h)) : AnyG X vx vy H Q := by
  unfold augOk at hk
  split at hk
  · rename_i n
    split at hk
    · rename_i l e1
      split at hk
      · rename_i j
        have h0 := of_decide_eq_true hk
        obtain ⟨a, vs, rfl, ha, h1, h2⟩ := S.lst e1 rx
        rw [rep_int] at ry
        subst ry
        unfold getix at o
        dsimp only at o
        rw [e1] at o
        dsimp only at o
        cases e : atI l j with
        | none => rw [e] at o; exact False.elim o
        | some d =>
          rw [e] at o
          obtain ⟨v, h3, h4⟩ := atI_rep h2 e
          intro pins s σ' ov iv I ro ri
          obtain rfl : ov = Value.ref a := ro
          obtain ⟨t, rfl⟩ := ri
          obtain ⟨its, r, pl, hz⟩ := I.list (SqL.of h1)
          obtain ⟨m, g1, g2, g3, g4, g5⟩ := atI_get h3
          obtain ⟨u, eu, ru⟩ := r.get g2
          have em : j.toNat = m := by
            rw [seqIndex_of h0 g5] at g1
            exact Option.some.inj g1
          have fit : j < 2 ^ 63 := by
            have := sizeLine_eq
            omega
          exact wpAny_getItem_list (k := j) (x := u) pl.isList h0 fit (by rw [em]; simpa using eu) ⟨v, H, I, ru, RD.val S o h4⟩
      · cases hk
    · rename_i kvs e1
      unfold getix at o
      dsimp only at o
      rw [e1] at o
      dsimp only at o
      split at o
      · rename_i hkd
        obtain ⟨a, ps, rfl, ha, h1, h2⟩ := S.dct e1 rx
        obtain ⟨κ, hκ, rfl⟩ := repK_of hkd ry
        cases e3 : dget kvs y with
        | none => rw [e3] at o; exact False.elim o
        | some d =>
          rw [e3] at o
          obtain ⟨v, e4, r4⟩ := (h2.get hκ).1 d e3
          intro pins s σ' ov iv I ro ri
          obtain rfl : ov = Value.ref a := ro
          have g : DGet H a (L2.kV κ) (some v) := by
            rw [← e4]
            exact DGet.k h1
          exact d_getItem hu I g ri fun w' s' I' rw' => ⟨v, H, I', rw', RD.val S o r4⟩
      · exact False.elim o
    · cases hk
  · cases hk
theorem psm_augi {o i : Expr} {mo mi : Sg → Hh → Res D} {op : Operator} {tpos : Pos} (hu : X.A.units + 1 < cLine) (ho : PM G X W o mo) (hi : PM G X W i mi) (he : PM G X W e me)
    (hs : ∀ ov iv new, augStore i ov iv new = (do holding [new, ov, iv] (setItem ov iv new); release [new, ov, iv] []; pure .next)) :
    PSM G X W (.AugAssign (.Subscript o i tpos) op e pos) (fun sg h => (mo sg h).st sg fun x h => (mi sg h).st sg fun j h => if augOk x j h then (getix x j h).st sg fun u h => (me sg h).st sg fun y h => (augop op u y h).st sg fun z h => (setix x j z h).st sg fun _ h => .ok (.nx, sg) h else .bad) := by
  refine PS.mono (ps_augS ho hi anyG he anyA anyP hs) fun D σ H ⟨ρ, sg, h, S, R, o⟩ => ?_
  refine ⟨ρ, sg, h, S, R, (Out.st R o).imp fun ρ1 H1 h1 x e1 S1 o1 vx rx => ?_⟩
  refine ⟨ρ1, sg, h1, S1, R.ext e1, (Out.st (R.ext e1) o1).imp fun ρ2 H2 h2 j e2 S2 o2 vj rj => ?_⟩
  have R2 := (R.ext e1).ext e2
  split at o2
  · rename_i hk
    refine getitem_ok (W := W) (σ := σ) hu S2 (Rep.ext e2 _ _ rx) rj hk ((Out.st R2 o2).imp fun ρ3 H3 h3 u e3 S3 o3 vu ru => ?_)
    refine ⟨ρ3, sg, h3, S3, R2.ext e3, (Out.st (R2.ext e3) o3).imp fun ρ4 H4 h4 y e4 S4 o4 vy ry => ?_⟩
    have R4 := (R2.ext e3).ext e4
    refine augop_ok (W := W) (σ := σ) S4 (Rep.ext e4 _ _ ru) ry ((Out.st R4 o4).imp fun ρ5 H5 h5 z e5 S5 o5 vz rz => ?_)
    have E25 := (e3.trans e4).trans e5
    refine setix_ok (W := W) (σ := σ) hu S5 (Rep.ext E25 _ _ (Rep.ext e2 _ _ rx)) (Rep.ext E25 _ _ rj) rz ((Out.st (R4.ext e5) o5).imp fun ρ6 H6 h6 _ e6 S6 o6 => ?_)
    exact Out.now S6 o6 σ ((R4.ext e5).ext e6)
  · exact False.elim o2
theorem psm_ex (he : PM G X W e me) (hs : swapsWith e none pos.line X.env = pure false) : PSM G X W (.Expr e pos) (fun sg h => (me sg h).st sg fun _ h => .ok (.nx, sg) h) := by
  refine PS.mono (ps_expr he hs) fun D σ H ⟨ρ, sg, h, S, R, o⟩ => ⟨ρ, sg, h, S, R, (Out.st R o).imp fun ρ1 H1 h1 d e1 S1 o1 v rv => ?_⟩
  exact Out.now S1 o1 σ (R.ext e1)
theorem psm_doc {x j p} : PSM G X W (.Expr (.Constant (.str x) j p) pos) (fun sg h => .ok (.nx, sg) h) :=
  PS.mono ps_doc fun D σ H ⟨ρ, sg, h, S, R, o⟩ => Out.now S o σ R
theorem psm_ret (he : PM G X W e me) : PSM G X W (.Return (some e) pos) (fun sg h => (me sg h).st sg fun v h => .ok (.ret v, sg) h) := by
  refine PS.mono (ps_ret he) fun D σ H ⟨ρ, sg, h, S, R, o⟩ => ⟨ρ, sg, h, S, R, (Out.st R o).imp fun ρ1 H1 h1 d e1 S1 o1 v rv => ?_⟩
  exact Out.now S1 o1 σ (R.ext e1) v rv
theorem psm_retn : PSM G X W (.Return none pos) (fun sg h => .ok (.ret .non, sg) h) :=
  PS.mono ps_retN fun D σ H ⟨ρ, sg, h, S, R, o⟩ => Out.now S o σ R .non (rep_non.mpr rfl)
theorem psm_pass : PSM G X W (.Pass pos) (fun sg h => .ok (.nx, sg) h) := PS.mono ps_pass fun D σ H ⟨ρ, sg, h, S, R, o⟩ => Out.now S o σ R
theorem psm_brk : PSM G X W (.Break pos) (fun sg h => .ok (.brk, sg) h) := PS.mono ps_break fun D σ H ⟨ρ, sg, h, S, R, o⟩ => Out.now S o σ R
theorem psm_cont : PSM G X W (.Continue pos) (fun sg h => .ok (.ct, sg) h) := PS.mono ps_continue fun D σ H ⟨ρ, sg, h, S, R, o⟩ => Out.now S o σ R
theorem psm_stuck {st : Stmt} : PSM G X W st (fun _ _ => .bad) := PS.mono ps_never fun D σ H ⟨ρ, sg, h, S, R, o⟩ => o
theorem psm_if {p q : List Stmt} {mc : Sg → Hh → Res Bool} {mp mq : Sg → Hh → Res (Fl × Sg)} (hc : PMT G X W c mc) (hp : PSsM G X W p mp) (hq : PSsM G X W q mq) : PSM G X W (.If c p q pos) (fun sg h => (mc sg h).st sg fun t h => if t then mp sg h else mq sg h) := by
  refine PS.mono (ps_if hc hp hq) fun D σ H ⟨ρ, sg, h, S, R, o⟩ => ⟨ρ, sg, h, S, R, (Out.st R o).imp fun ρ1 H1 h1 t e1 S1 o1 => ?_⟩
  cases t with
  | true => exact ⟨ρ1, sg, h1, S1, R.ext e1, o1.any⟩
  | false => exact ⟨ρ1, sg, h1, S1, R.ext e1, o1.any⟩
theorem pssm_nil : PSsM G X W [] (fun sg h => .ok (.nx, sg) h) := PSs.mono pss_nil fun D σ H ⟨ρ, sg, h, S, R, o⟩ => Out.now S o σ R
theorem pssm_cons {st : Stmt} {sts : List Stmt} {m ms : Sg → Hh → Res (Fl × Sg)} (h1 : PSM G X W st m) (h2 : PSsM G X W sts ms) : PSsM G X W (st :: sts) (fun sg h => (m sg h).bind fun p h => match p.1 with | .nx => ms p.2 h | f => .ok (f, p.2) h) := by
  refine PSs.mono (pss_cons h1 h2) fun D σ H ⟨ρ, sg, h, S, R, o⟩ => ⟨ρ, sg, h, S, R, o.bind.imp fun ρ1 H1 h1 p e1 S1 o1 σ1 R1 => ?_⟩
  obtain ⟨f, sg1⟩ := p
  cases f with
  | nx => exact ⟨ρ1, sg1, h1, S1, R1, o1.any⟩
  | brk => exact Out.now S1 o1 σ1 R1
  | ct => exact Out.now S1 o1 σ1 R1
  | ret v => exact Out.now S1 o1 σ1 R1
  | exc k fs => exact Out.now S1 o1 σ1 R1
theorem psm_del {tpos : Pos} (ha : PM G X W a ma) (hb : PM G X W b mb) : PSM G X W (.Delete [.Subscript a b tpos] pos) (fun sg h => (ma sg h).st sg fun x h => (mb sg h).st sg fun y h => (delix x y h).st sg fun _ h => .ok (.nx, sg) h) := by
  refine PS.mono (ps_ddel ha hb) fun D σ H ⟨ρ, sg, h, S, R, o⟩ => ⟨ρ, sg, h, S, R, (Out.st R o).imp fun ρ1 H1 h1 x e1 S1 o1 v rv => ⟨ρ1, sg, h1, S1, R.ext e1, (Out.st (R.ext e1) o1).imp fun ρ2 H2 h2 y e2 S2 o2 w rw => ?_⟩⟩
  have R2 := (R.ext e1).ext e2
  exact delix_ok (W := W) (σ := σ) S2 (Rep.ext e2 _ _ rv) rw ((Out.st R2 o2).imp fun ρ3 H3 h3 _ e3 S3 o3 => Out.now S3 o3 σ (R2.ext e3))

/-! ### while -/
theorem psm_whl {body : List Stmt} {mc : Sg → Hh → Res Bool} {mb : Sg → Hh → Res (Fl × Sg)} {fuel : Nat} (hp : PassesOwn (model X.prog X.w) X.A X.env X.xe) (hc : PMT G X W c mc) (hb : PSsM G X W body mb) :
    PSM G X W (.While c body [] pos) (fun sg h => rounds mc mb fuel sg h) := by
  refine PS.mono (ps_while hp hc hb) fun D σ H ⟨ρ, sg, h, S, R, o⟩ => ?_
  refine ⟨fun m σ H => ∃ ρ sg h, Sim X.K G ρ H h ∧ RepS X.K ρ H sg σ ∧ Out X.K G F0 σ ρ H (fun ρ' H' _ p => EndR G X W D ρ' H' p) (rounds mc mb m sg h), ⟨fuel, ρ, sg, h, S, R, o⟩, ?_⟩
  rintro m σ H ⟨ρ, sg, h, S, R, o⟩
  cases m with
  | zero => exact False.elim o
  | succ m =>
    unfold rounds at o
    refine ⟨ρ, sg, h, S, R, (Out.st R o).imp fun ρ1 H1 h1 t e1 S1 o1 => ?_⟩
    have R1 := R.ext e1
    cases t with
    | false => exact Out.now S1 o1 σ R1
    | true =>
      refine ⟨_, fun σ' H' w => ⟨m, Nat.lt_succ_self _, w⟩, ρ1, sg, h1, S1, R1, (Out.bind o1).imp fun ρ2 H2 h2 p e2 S2 o2 σ2 R2 => ?_⟩
      obtain ⟨f, sg2⟩ := p
      cases f with
      | nx => exact ⟨ρ2, sg2, h2, S2, R2, o2.any⟩
      | brk => exact Out.now S2 o2 σ2 R2
      | ct => exact ⟨ρ2, sg2, h2, S2, R2, o2.any⟩
      | ret v => exact Out.now S2 o2 σ2 R2
      | exc k fs => exact Out.now S2 o2 σ2 R2
end
end Z

/-! ZH: for, list comprehensions, dict displays. -/
namespace Z
open PySem PySem.Spec PyProof.Rows L2

theorem Res.bind_assoc {α β γ : Type} (r : Res α) (f : α → Hh → Res β) (g : β → Hh → Res γ) : (r.bind f).bind g = r.bind fun a h => (f a h).bind g := by
  cases r <;> rfl
section
variable {G : Gt} {X : Cx} {W : WX} {σ σ' : L2.St} {ρ ρ' : List Addr} {H H' : Hp} {α β : Type}
theorem Out.st2 {D : Ends} {r : Res α} {sg : Sg} {f : α → Hh → Res (Fl × Sg)} {g : Fl × Sg → Hh → Res (Fl × Sg)} (R : RepS X.K ρ H sg σ) (hg : ∀ c fs sg h, g (.exc c fs, sg) h = .ok (.exc c fs, sg) h)
    (o : Out X.K G F0 σ ρ H (fun ρ' H' _ p => EndR G X W D ρ' H' p) ((r.st sg f).bind g)) :
    Out X.K G W σ ρ H (fun ρ1 H1 h1 a => Out X.K G F0 σ ρ1 H1 (fun ρ' H' _ p => EndR G X W D ρ' H' p) ((f a h1).bind g)) r := by
  cases r with
  | ok a h => exact fun ρ1 H1 e S => o.ext e
  | exc c fs h =>
    have o : Out X.K G F0 σ ρ H (fun ρ' H' _ p => EndR G X W D ρ' H' p) (g (.exc c fs, sg) h) := o
    rw [hg] at o
    exact fun ρ' H' d e S x => o ρ' H' e S σ (R.ext e) d x
  | bad => exact o

/-! ### what is walked -/
/-- J walks q -/
def ItOk (K : PySem.W.Frag) (q : Sq) (ρ : List Addr) (H : Hp) (J : It) : Prop :=
  match q with
  | .pur l => ∃ vs, Reps K ρ H l vs ∧ ∀ H', (∀ a xs, H a = some (.tup xs) → H' a = some (.tup xs)) → (∀ a o u, H a = some (.frz o u) → H' a = some (.frz o u)) → ∀ i,
      (i < vs.length → J.go i H' ∧ ∀ x H'', J.yld i H' x H'' → H'' = H' ∧ vs[i]? = some x) ∧ (vs.length ≤ i → J.stop i H')
  | .lst n => ∃ a, ρ[n]? = some a ∧ J = Itl K a
def tIt (G : Gt) (X : Cx) (W : WX) (m : Sg → Hh → Res Sq) : TI := fun σ H R => ∃ ρ sg h, Sim X.K G ρ H h ∧ RepS X.K ρ H sg σ ∧ Out X.K G W σ ρ H (fun ρ' H' _ q => ∀ J, ItOk X.K q ρ' H' J → R J H') (m sg h)
abbrev PIM (G : Gt) (X : Cx) (W : WX) (tg e : Expr) (m : Sg → Hh → Res Sq) : Prop := PI X tg e (tIt G X W m)
theorem itOk_tup {K : PySem.W.Frag} {l : List D} {vs : List V} {a : Addr} (h1 : SqT K H a vs) (h2 : Reps K ρ H l vs) : ItOk K (.pur l) ρ H (Itt K a) := by
  refine ⟨vs, h2, fun H' k1 k2 i => ?_⟩
  have h3 : SqT K H' a vs := sqT_ext k1 k2 h1
  exact ⟨fun hi => ⟨⟨vs, vs[i], h3, by simp [hi]⟩, fun x H'' y => ⟨y.1, y.2 vs h3⟩⟩, fun hi => ⟨vs, h3, hi⟩⟩
theorem itOk_rol {K : PySem.W.Frag} {l : List D} {vs : List V} {a : Addr} (h1 : RoL K H a vs) (h2 : Reps K ρ H l vs) : ItOk K (.pur l) ρ H (Itl K a) := by
  refine ⟨vs, h2, fun H' k1 k2 i => ?_⟩
  have h3 : SqL K H' a vs := (roL_ext k2 h1).sq
  exact ⟨fun hi => ⟨⟨vs, vs[i], h3, by simp [hi]⟩, fun x H'' y => ⟨y.1, y.2 vs h3⟩⟩, fun hi => ⟨vs, h3, hi⟩⟩
theorem reps_rng {K : PySem.W.Frag} {lo : Int} : ∀ (n : Nat), Reps K ρ H ((List.range n).map fun (k : Nat) => D.int (lo + (k : Int))) ((List.range n).map fun (k : Nat) => V.int (lo + (k : Int)))
  | 0 => Reps.nil
  | n + 1 => by
    rw [List.range_succ, List.map_append, List.map_append]
    exact (reps_rng n).app (Reps.cons (rep_int.mpr rfl) Reps.nil)
theorem itOk_rng {K : PySem.W.Frag} {lo : Int} {n : Nat} : ItOk K (.pur ((List.range n).map fun (k : Nat) => D.int (lo + (k : Int)))) ρ H (Itr lo n) := by
  refine ⟨_, reps_rng n, fun H' _ _ i => ?_⟩
  rw [List.length_map, List.length_range]
  exact ⟨fun hi => ⟨hi, fun x H'' y => ⟨y.1, by rw [y.2]; simp [hi]⟩⟩, fun hi => hi⟩

variable {tg e : Expr} {me : Sg → Hh → Res D}
theorem pim_seq (he : PM G X W e me) : PIM G X W tg e (fun sg h => (me sg h).bind fun x h => match x with
    | .tup l => .ok (.pur l) h
    | .rol l => .ok (.pur l) h
    | .ref n => match h[n]? with
      | some (.lst _) => .ok (.lst n) h
      | _ => .bad
    | _ => .bad) := by
  refine ⟨fun pins s σ H R I ⟨ρ, sg, h, S, Rr, o⟩ => ?_⟩
  dsimp only at o
  have o2 := o.bind
  cases hm : me sg h with
  | bad => rw [hm] at o; exact False.elim o
  | exc c fs h1 =>
    rw [hm] at o2
    exact (pi_list (tg := tg) he).run pins s σ H R I ⟨ρ, sg, h, S, Rr, by rw [hm]; exact o2⟩
  | ok x h1 =>
    rw [hm] at o2
    cases x with
    | tup l =>
      refine (pi_tup (tg := tg) he).run pins s σ H R I ⟨ρ, sg, h, S, Rr, ?_⟩
      rw [hm]
      intro ρ1 H1 e1 S1 v rv
      rw [Rep] at rv
      obtain ⟨a, vs, rfl, h1, h2⟩ := rv
      exact ⟨a, rfl, ⟨vs, h1⟩, Out.now S1 (o2 ρ1 H1 e1 S1) _ (itOk_tup h1 h2)⟩
    | rol l =>
      refine (pi_list (tg := tg) he).run pins s σ H R I ⟨ρ, sg, h, S, Rr, ?_⟩
      rw [hm]
      intro ρ1 H1 e1 S1 v rv
      rw [Rep] at rv
      obtain ⟨a, vs, rfl, h1, h2⟩ := rv
      exact ⟨a, rfl, ⟨vs, h1.sq⟩, Out.now S1 (o2 ρ1 H1 e1 S1) _ (itOk_rol h1 h2)⟩
    | ref n =>
      refine (pi_list (tg := tg) he).run pins s σ H R I ⟨ρ, sg, h, S, Rr, ?_⟩
      rw [hm]
      intro ρ1 H1 e1 S1 v rv
      have o3 := o2 ρ1 H1 e1 S1
      dsimp only at o3
      split at o3
      · rename_i l e2
        obtain ⟨a, vs, rfl, ha, h1, h2⟩ := S1.lst e2 rv
        exact ⟨a, rfl, ⟨vs, .inl (.inl h1)⟩, Out.now S1 o3 _ ⟨a, ha, rfl⟩⟩
      · exact False.elim o3
    | _ =>
      refine (pi_list (tg := tg) he).run pins s σ H R I ⟨ρ, sg, h, S, Rr, ?_⟩
      rw [hm]
      intro ρ1 H1 e1 S1 v rv
      exact False.elim (o2 ρ1 H1 e1 S1)
theorem inRng_ok {i : Int} (h : inRng i = true) : -(2 ^ 62) ≤ i ∧ i < 2 ^ 62 := by
  unfold inRng at h
  simpa using h
theorem pim_rng1 {a : Expr} {p pos : Pos} {ma : Sg → Hh → Res D} (hg : Gl X "range") (hm : X.mg "range" = none) (ha : PM G X W a ma) (hs : noStar a = true) : PIM G X W tg (.Call (.Name "range" p) [a] [] pos) (fun sg h => (ma sg h).bind fun x h => match x with
    | .int i => if inRng i then .ok (.pur (rngL 0 i)) h else .bad
    | _ => .bad) := by
  have hp := pi_range1 (tg := tg) (p := p) (pos := pos) hg hm (pa_cons ha pa_nil (star_cons hs [] X.env)) (by rw [star_cons hs] <;> rfl)
  refine ⟨fun pins s σ H R I ⟨ρ, sg, h, S, Rr, o⟩ => hp.run pins s σ H R I ⟨ρ, sg, h, S, Rr, o.bind.imp fun ρ1 H1 h1 d e1 S1 o1 v rv => ?_⟩⟩
  split at o1
  · split at o1
    · rename_i i hi
      rw [rep_int] at rv; subst rv
      have b := inRng_ok hi
      refine ⟨_, rfl, b.1, b.2, Out.now S1 o1 _ ?_⟩
      have := itOk_rng (K := X.K) (ρ := ρ1) (H := H1) (lo := 0) (n := i.toNat)
      unfold rngL
      rw [Int.sub_zero]
      exact this
    · exact False.elim o1
  · exact False.elim o1
theorem pim_rng2 {a b : Expr} {p pos : Pos} {ma mb : Sg → Hh → Res D} (hg : Gl X "range") (hm : X.mg "range" = none) (ha : PM G X W a ma) (hb : PM G X W b mb) (hs : noStar a = true) (hs2 : noStar b = true) :
    PIM G X W tg (.Call (.Name "range" p) [a, b] [] pos) (fun sg h => (ma sg h).bind fun x h => (mb sg h).bind fun y h => match x, y with
    | .int i, .int j => if inRng i && inRng j then .ok (.pur (rngL i j)) h else .bad
    | _, _ => .bad) := by
  have hp := pi_range2 (tg := tg) (p := p) (pos := pos) hg hm (pa_cons ha (pa_cons hb pa_nil (star_cons hs2 [] X.env)) (star_cons hs [b] X.env)) (by rw [star_cons hs, star_cons hs2] <;> rfl) (by rw [star_cons hs2] <;> rfl)
  refine ⟨fun pins s σ H R I ⟨ρ, sg, h, S, Rr, o⟩ => hp.run pins s σ H R I ⟨ρ, sg, h, S, Rr, o.bind.imp fun ρ1 H1 h1 x e1 S1 o1 v rv => ⟨ρ1, sg, h1, S1, Rr.ext e1, o1.bind.imp fun ρ2 H2 h2 y e2 S2 o2 w rw => ?_⟩⟩⟩
  have rv := Rep.ext e2 _ _ rv
  split at o2
  · split at o2
    · rename_i i j hi
      rw [Bool.and_eq_true] at hi
      rw [rep_int] at rv rw
      subst rv rw
      have b1 := inRng_ok hi.1
      have b2 := inRng_ok hi.2
      exact ⟨_, _, rfl, ⟨b1.1, b1.2, b2.1, b2.2⟩, Out.now S2 o2 _ itOk_rng⟩
    · exact False.elim o2
  · exact False.elim o2

/-! ### for -/
theorem drop_cons {l : List α} {i : Nat} (h : i < l.length) : l.drop i = l[i] :: l.drop (i + 1) := List.drop_eq_getElem_cons h
theorem psm_each {iter : Expr} {body : List Stmt} {mi : Sg → Hh → Res Sq} {mt : D → Sg → Hh → Res Sg} {mb : Sg → Hh → Res (Fl × Sg)} {ns : List Nat} {pos : Pos} (hp : PassesOwn (model X.prog X.w) X.A X.env X.xe) (hc : X.calm = true) (hi : PIM G X W tg iter mi) (hg : PGM G X W tg ns mt) (hb : PSsM G X W body mb)
    (hs : ∀ x, foldedSetIterable iter X.env x = pure x) : PSM G X W (.For tg iter body [] pos) (fun sg h => (mi sg h).st sg fun q h => match q with
      | .pur l => turns (fun x sg h => (mt x sg h).st sg fun sg h => mb sg h) l sg h
      | .lst n => match h[n]? with
        | some (.lst l) => turnsL (fun x sg h => (mt x sg h).st sg fun sg h => mb sg h) n (l.length + 1) 0 sg h
        | _ => .bad) := by
  refine PS.mono (ps_for hp hc hi hg hb hs) fun D σ H ⟨ρ, sg, h, S, R, o⟩ => ⟨ρ, sg, h, S, R, (Out.st R o).imp fun ρ1 H1 h1 q e1 S1 o1 J hJ => ?_⟩
  have R1 := R.ext e1
  cases q with
  | pur l =>
    obtain ⟨vs, rs, hw⟩ := hJ
    have ll := rs.length
    refine ⟨fun i m σ H => m = l.length - i ∧ i ≤ l.length ∧ ∃ ρ sg h, Ext ρ1 H1 ρ H ∧ Sim X.K G ρ H h ∧ RepS X.K ρ H sg σ ∧ Out X.K G F0 σ ρ H (fun ρ' H' _ p => EndR G X W D ρ' H' p) (turns (fun x sg h => (mt x sg h).st sg fun sg h => mb sg h) (l.drop i) sg h),
      ⟨l.length, by simp, Nat.zero_le _, ρ1, sg, h1, Ext.refl _ _, S1, R1, o1⟩, ?_⟩
    rintro i m σ2 H2 ⟨rfl, hi, ρ2, sg2, h2, e2, S2, R2, o2⟩
    have w := hw H2 e2.tup e2.frz i
    by_cases hlt : i < l.length
    · obtain ⟨g1, g2⟩ := w.1 (by omega)
      rw [drop_cons hlt] at o2
      unfold turns at o2
      refine .inr ⟨g1, _, fun σ' H' w' => ⟨l.length - (i + 1), by omega, rfl, by omega, w'⟩, fun x H' y => ?_⟩
      obtain ⟨rfl, gx⟩ := g2 x H' y
      obtain ⟨v, gv, rv⟩ := rs.get (i := i) (d := l[i]) (by simp [hlt])
      rw [gx] at gv; cases gv
      refine ⟨ρ2, sg2, h2, l[i], S2, R2, Rep.ext e2 _ _ rv, (Out.st2 R2 (by intros; rfl) o2).imp fun ρ3 H3 h3 sg3 e3 S3 o3 σ3 R3 _ => ⟨ρ3, sg3, h3, S3, R3, o3.any.bind.imp fun ρ4 H4 h4 p e4 S4 o4 σ4 R4 => ?_⟩⟩
      obtain ⟨f, sg4⟩ := p
      cases f with
      | nx => exact ⟨ρ4, sg4, h4, (e2.trans e3).trans e4, S4, R4, o4.any⟩
      | brk => exact Out.now S4 o4 σ4 R4
      | ct => exact ⟨ρ4, sg4, h4, (e2.trans e3).trans e4, S4, R4, o4.any⟩
      | ret v => exact Out.now S4 o4 σ4 R4
      | exc k fs => exact Out.now S4 o4 σ4 R4
    · rw [List.drop_eq_nil_of_le (by omega)] at o2
      exact .inl ⟨w.2 (by omega), Out.now S2 o2 σ2 R2⟩
  | lst n =>
    obtain ⟨a, ha, rfl⟩ := hJ
    dsimp only at o1
    cases el : h1[n]? with
    | none => rw [el] at o1; exact False.elim o1
    | some ob =>
      cases ob with
      | lst l =>
        rw [el] at o1
        refine ⟨fun i m σ H => ∃ ρ sg h, Ext ρ1 H1 ρ H ∧ Sim X.K G ρ H h ∧ RepS X.K ρ H sg σ ∧ Out X.K G F0 σ ρ H (fun ρ' H' _ p => EndR G X W D ρ' H' p) (turnsL (fun x sg h => (mt x sg h).st sg fun sg h => mb sg h) n m i sg h),
          ⟨l.length + 1, ρ1, sg, h1, Ext.refl _ _, S1, R1, o1⟩, ?_⟩
        rintro i m σ2 H2 ⟨ρ2, sg2, h2, e2, S2, R2, o2⟩
        cases m with
        | zero => exact False.elim o2
        | succ m =>
          unfold turnsL at o2
          have ha2 := e2.pre n a ha
          split at o2
          · rename_i l2 el2
            obtain ⟨a', vs, ea, ha', q1, q2⟩ := S2.lst el2 (v := .ref a) (rep_ref.mpr ⟨a, rfl, ha2⟩)
            cases ea
            have q3 : SqL X.K H2 a vs := .inl (.inl q1)
            cases ei : l2[i]? with
            | none =>
              rw [ei] at o2
              refine .inl ⟨⟨vs, q3, ?_⟩, Out.now S2 o2 σ2 R2⟩
              rw [← q2.length]
              exact List.getElem?_eq_none_iff.mp ei
            | some x =>
              rw [ei] at o2
              obtain ⟨v, gv, rv⟩ := q2.get ei
              refine .inr ⟨⟨vs, v, q3, gv⟩, _, fun σ' H' w' => ⟨m, Nat.lt_succ_self _, w'⟩, fun y H' yl => ?_⟩
              obtain ⟨rfl, gy⟩ := yl
              have := gy vs q3
              rw [gv] at this; cases this
              refine ⟨ρ2, sg2, h2, x, S2, R2, rv, (Out.st2 R2 (by intros; rfl) o2).imp fun ρ3 H3 h3 sg3 e3 S3 o3 σ3 R3 _ => ⟨ρ3, sg3, h3, S3, R3, o3.any.bind.imp fun ρ4 H4 h4 p e4 S4 o4 σ4 R4 => ?_⟩⟩
              obtain ⟨f, sg4⟩ := p
              cases f with
              | nx => exact ⟨ρ4, sg4, h4, (e2.trans e3).trans e4, S4, R4, o4.any⟩
              | brk => exact Out.now S4 o4 σ4 R4
              | ct => exact ⟨ρ4, sg4, h4, (e2.trans e3).trans e4, S4, R4, o4.any⟩
              | ret v => exact Out.now S4 o4 σ4 R4
              | exc k fs => exact Out.now S4 o4 σ4 R4
          · exact False.elim o2
      | dct l => rw [el] at o1; exact False.elim o1
      | ins c l => rw [el] at o1; exact False.elim o1
      | set l => rw [el] at o1; exact False.elim o1
end
end Z

/-! ZI: list comprehensions, dict displays. -/
namespace Z
open PySem PySem.Spec PyProof.Rows L2

section
variable {G : Gt} {X : Cx} {W : WX} {σ σ' : L2.St} {ρ ρ' : List Addr} {H H' : Hp} {α β : Type}

/-- a list (a dict) in the making, at a place that is not of ours yet: u stands at L since (ρ, H) -/
structure Mk1 (ρ : List Addr) (H : Hp) (L : Addr) (u : HO) (ρ' : List Addr) (H' : Hp) : Prop where
  ext : Ext ρ H ρ' H'
  non : H L = none
  out : L ∉ ρ'
  at_ : H' L = some u
theorem Mk1.go {L : Addr} {u : HO} {ρ2 : List Addr} {H2 : Hp} (m : Mk1 ρ H L u ρ' H') (e : Ext ρ' H' ρ2 H2) : Mk1 ρ H L u ρ2 H2 :=
  ⟨m.ext.trans e, m.non, fun z => (by have := e.new L z m.out; rw [m.at_] at this; cases this), e.old L u m.out m.at_⟩
theorem Mk1.ini {L : Addr} {u : HO} {h : Hh} (S : Sim X.K G ρ H h) (hL : H L = none) : Mk1 ρ H L u ρ (upd H L u) := ⟨ext_tmp hL (S.fresh hL), hL, S.fresh hL, upd_same⟩
theorem Mk1.put {L : Addr} {u u' : HO} (m : Mk1 ρ H L u ρ' H') : Mk1 ρ H L u' ρ' (upd H' L u') where
  ext := ⟨m.ext.pre, m.ext.new, fun a o h1 h2 => by rw [upd_ne (ne_of_none h2 m.non)]; exact m.ext.old a o h1 h2, fun a xs h2 => by rw [upd_ne (ne_of_none h2 m.non)]; exact m.ext.tup a xs h2,
    fun a o v h2 => by rw [upd_ne (ne_of_none h2 m.non)]; exact m.ext.frz a o v h2⟩
  non := m.non
  out := m.out
  at_ := upd_same
/-- it is done -/
theorem Mk1.fin {L : Addr} {u : HO} {o : O} {h : Hh} {Q : VK} (m : Mk1 ρ H L u ρ' H') (S : Sim X.K G ρ' H' h) (h1 : ∀ xs, u ≠ .tup xs) (h2 : ∀ ob w, u ≠ .frz ob w) (q : ObjR X.K G (ρ' ++ [L]) H' o L) (out : RD X G W σ ρ H Q (alloc h o)) : Q (.ref L) H' := by
  have e0 : upd H' L u = H' := by
    funext b
    by_cases e : b = L
    · rw [e, upd_same, m.at_]
    · rw [upd_ne e]
  have S2 := S.new0 (a := L) (o := o) (u := u) m.out (fun xs z => by rw [m.at_] at z; cases z; exact h1 xs rfl) (fun ob w z => by rw [m.at_] at z; cases z; exact h2 ob w rfl) (by rw [e0]; exact q)
  rw [e0] at S2
  refine out (ρ' ++ [L]) H' ⟨fun n a e => ?_, fun a hm hn => ?_, m.ext.old, m.ext.tup, m.ext.frz⟩ S2 _ (rep_ref.mpr ⟨L, rfl, ?_⟩)
  · have e := m.ext.pre n a e
    have hl : n < ρ'.length := by
      by_cases q : n < ρ'.length
      · exact q
      · rw [List.getElem?_eq_none (by omega)] at e; cases e
    rw [List.getElem?_append_left hl]; exact e
  · rcases List.mem_append.mp hm with z | z
    · exact m.ext.new a z hn
    · rw [List.mem_singleton.mp z]; exact m.non
  · rw [← S.len]; simp
theorem pre_app {a : Addr} {n : Nat} {b : Addr} (h : ρ[n]? = some b) : (ρ ++ [a])[n]? = some b := by
  have hl : n < ρ.length := by
    by_cases q : n < ρ.length
    · exact q
    · rw [List.getElem?_eq_none (by omega)] at h; cases h
  rw [List.getElem?_append_left hl]; exact h
theorem mon_more {a : Addr} : Mon ρ H (ρ ++ [a]) H := ⟨fun _ _ h => pre_app h, fun _ _ h => h, fun _ _ _ h => h⟩

/-- a turn of a comprehension -/
def turnM (mt : D → Sg → Hh → Res Sg) (mc : Sg → Hh → Res Bool) (me : Sg → Hh → Res D) (vs : List Nat) (sg : Sg) : D → Hh → Res (Option D) := fun x h =>
  ((mt x (wipes sg vs) h).bind fun sg2 h => (mc sg2 h).bind fun b h => if b then (me sg2 h).bind fun v h => .ok (some v) h else .ok none h).calm

/-- a turn, with what it leads to -/
theorem turn_step {mt : D → Sg → Hh → Res Sg} {mc : Sg → Hh → Res Bool} {me : Sg → Hh → Res D} {vs : List Nat} {sg : Sg} {h : Hh} {L : Addr} {acc : List D} {vacc : List V} {x : D} {v : V} {k : Option D → Hh → Res D} {Nx : Hp → Prop}
    {ρ1 ρ2 : List Addr} {H1 H2 : Hp} {Q : VK} (m : Mk1 ρ1 H1 L (.lst vacc) ρ2 H2) (S : Sim X.K G ρ2 H2 h) (R : RepS X.K ρ2 H2 sg σ) (ra : Reps X.K ρ2 H2 acc vacc) (rx : Rep X.K ρ2 H2 x v) (o : RD X G W σ ρ1 H1 Q ((turnM mt mc me vs sg x h).bind k))
    (hz : ∀ d h3, RD X G W σ ρ1 H1 Q (k (some d) h3) → acc.length < SZ)
    (nx : ∀ ρ3 H3 h3 acc' vacc' y, Mk1 ρ1 H1 L (.lst vacc') ρ3 H3 → Ext ρ1 H1 ρ3 H3 → Mon ρ2 H2 ρ3 H3 → Sim X.K G ρ3 H3 h3 → Reps X.K ρ3 H3 acc' vacc' → RepS X.K ρ3 H3 sg σ → ((y = none ∧ acc' = acc) ∨ ∃ d, y = some d ∧ acc' = acc ++ [d]) → RD X G W σ ρ1 H1 Q (k y h3) → Nx H3) :
    tTg G X F0 vs mt v (L2.wipe σ vs) H2 fun σ2 H3 => L2.wipe σ2 vs = L2.wipe σ vs ∧ tBo G X F0 mc σ2 H3 fun b H4 => if b = true then tD G X F0 me σ2 H4 fun y H5 => ∃ acc, H5 L = some (.lst acc) ∧ acc.length < sizeLine ∧ Nx (upd H5 L (.lst (acc ++ [y]))) else Nx H4 := by
  have o1 := Out.ext m.ext (Out.bind0 o)
  have o2 := Out.calm (σ' := L2.wipe σ vs) (show Out X.K G W σ ρ2 H2 _ (Res.calm _) from o1)
  refine ⟨ρ2, wipes sg vs, h, x, S, R.wipe vs, rx, o2.bind.imp fun ρ3 H3 h3 sg3 e3 S3 o3 σ3 R3 sm => ⟨?_, ρ3, sg3, h3, S3, R3, o3.any.bind.imp fun ρ4 H4 h4 b e4 S4 o4 => ?_⟩⟩
  · rw [sm.wipe, wipe_twice]
  · have m4 := (m.go e3).go e4
    have R4 := (R.ext e3).ext e4
    cases b with
    | false =>
      show Nx H4
      exact nx ρ4 H4 h4 acc vacc none m4 m4.ext (e3.trans e4).mon S4 (Reps.ext (e3.trans e4) _ _ ra) R4 (.inl ⟨rfl, rfl⟩) (Out.now S4 o4)
    | true =>
      show tD G X F0 me σ3 H4 _
      have o4 : Out X.K G F0 σ3 ρ4 H4 _ ((me sg3 h4).bind fun v h => .ok (some v) h) := o4
      refine ⟨ρ4, sg3, h4, S4, R3.ext e4, o4.bind.imp fun ρ5 H5 h5 d e5 S5 o5 vy ry => ?_⟩
      have o6 := Out.now S5 o5
      have m5 := m4.go e5
      have mp : Mon ρ5 H5 ρ5 (upd H5 L (.lst (vacc ++ [vy]))) := mon_tmp (fun xs z => by rw [m5.at_] at z; cases z) (fun _ _ z => by rw [m5.at_] at z; cases z)
      have r5 := Reps.ext ((e3.trans e4).trans e5) _ _ ra
      have hl := hz d h5 o6
      rw [r5.length, SZ_eq] at hl
      refine ⟨vacc, m5.at_, hl, ?_⟩
      have e35 := (e3.trans e4).trans e5
      exact nx ρ5 _ h5 (acc ++ [d]) (vacc ++ [vy]) (some d) m5.put m5.put.ext ⟨fun n a q => e35.pre n a q, fun a xs q => mp.tup a xs (e35.tup a xs q), fun a ob w q => mp.frz a ob w (e35.frz a ob w q)⟩ (S5.put m5.out (fun xs z => by rw [m5.at_] at z; cases z) (fun _ _ z => by rw [m5.at_] at z; cases z))
        (Reps.mon mp _ _ (r5.app (Reps.cons ry Reps.nil))) ((R4.ext e5).mon mp) (.inr ⟨d, rfl, rfl⟩) o6

variable {elt tg iter : Expr} {ifs : List Expr} {scope : Scope} {own : List (Str × Nat)} {pos : Pos}
theorem pts_nilM : PTs X [] (tBo G X W fun _ h => .ok true h) := ⟨fun pins s σ H Q I ⟨ρ, sg, h, S, R, o⟩ => pts_nil.run pins s σ H Q I (Out.now S o)⟩
theorem comp_ok {mt : D → Sg → Hh → Res Sg} {mc : Sg → Hh → Res Bool} {me : Sg → Hh → Res D} {mi : Sg → Hh → Res Sq} {vs : List Nat} {Q : VK} {σ : L2.St} {H : Hp}
    (o : tD G X W (fun sg h => (mi sg h).bind fun q h => match q with
        | .pur l => (cturns (turnM mt mc me vs sg) l [] h).bind fun r h => alloc h (.lst r)
        | .lst n => match h[n]? with
          | some (.lst l) => (cturnsL (turnM mt mc me vs sg) n (l.length + 1) 0 [] h).bind fun r h => alloc h (.lst r)
          | _ => .bad) σ H Q) : tLc (tIt G X W mi) (tTg G X F0 vs mt) (tBo G X F0 mc) (tD G X F0 me) vs σ H Q := by
  obtain ⟨ρ, sg, h, S, R, o⟩ := o
  refine ⟨ρ, sg, h, S, R, o.bind.imp fun ρ1 H1 h1 q e1 S1 o1 J hJ L hL => ?_⟩
  have R1 := R.ext e1
  have m1 : Mk1 ρ1 H1 L (.lst []) ρ1 (upd H1 L (.lst [])) := Mk1.ini S1 hL
  have S1' := S1.tmp (o := .lst []) hL
  have R1' := R1.ext m1.ext
  have fin : ∀ {ρ2 : List Addr} {H2 : Hp} {h2 : Hh} {acc : List D} {vacc : List V}, Mk1 ρ1 H1 L (.lst vacc) ρ2 H2 → Sim X.K G ρ2 H2 h2 → Reps X.K ρ2 H2 acc vacc → RD X G W σ ρ1 H1 Q (alloc h2 (.lst acc)) → Q (.ref L) H2 := fun m S r o =>
    m.fin (o := .lst _) S (fun _ z => by cases z) (fun _ _ z => by cases z) ⟨_, m.at_, Reps.mon mon_more _ _ r⟩ o
  cases q with
  | pur l =>
    obtain ⟨ws, rs, hw⟩ := hJ
    have ll := rs.length
    refine ⟨fun i m H => m = l.length - i ∧ i ≤ l.length ∧ ∃ ρ2 h2 acc vacc, Mk1 ρ1 H1 L (.lst vacc) ρ2 H ∧ Sim X.K G ρ2 H h2 ∧ Reps X.K ρ2 H acc vacc ∧ RepS X.K ρ2 H sg σ ∧ RD X G W σ ρ1 H1 Q ((cturns (turnM mt mc me vs sg) (l.drop i) acc h2).bind fun r h => alloc h (.lst r)),
      ⟨l.length, by simp, Nat.zero_le _, ρ1, h1, [], [], m1, S1', Reps.nil, R1', o1⟩, ?_⟩
    rintro i m H2 ⟨rfl, hi, ρ2, h2, acc, vacc, m2, S2, ra, R2, o2⟩
    have w := hw H2 m2.ext.tup m2.ext.frz i
    by_cases hlt : i < l.length
    · obtain ⟨g1, g2⟩ := w.1 (by omega)
      rw [drop_cons hlt] at o2
      unfold cturns at o2
      rw [Res.bind_assoc] at o2
      refine .inr ⟨g1, _, fun H' w' => ⟨l.length - (i + 1), by omega, rfl, by omega, w'⟩, fun x H' y => ?_⟩
      obtain ⟨rfl, gx⟩ := g2 x H' y
      obtain ⟨v, gv, rv⟩ := rs.get (i := i) (d := l[i]) (by simp [hlt])
      rw [gx] at gv; cases gv
      refine turn_step m2 S2 R2 ra (Rep.ext m2.ext _ _ rv) o2 (fun d h3 o3 => ?_) fun ρ3 H3 h3 acc' vacc' y m3 e3 mn S3 ra3 R3 hy o3 => ?_
      · dsimp only at o3
        split at o3
        · assumption
        · exact False.elim o3
      · rcases hy with ⟨rfl, rfl⟩ | ⟨d, rfl, rfl⟩
        · exact ⟨ρ3, h3, acc', vacc', m3, S3, ra3, R3, o3⟩
        · dsimp only at o3
          split at o3
          · exact ⟨ρ3, h3, _, vacc', m3, S3, ra3, R3, o3⟩
          · exact False.elim o3
    · rw [List.drop_eq_nil_of_le (by omega)] at o2
      exact .inl ⟨w.2 (by omega), fin m2 S2 ra o2⟩
  | lst n =>
    obtain ⟨a, ha, rfl⟩ := hJ
    dsimp only at o1
    cases el : h1[n]? with
    | none => rw [el] at o1; exact False.elim o1
    | some ob =>
      cases ob with
      | lst l =>
        rw [el] at o1
        refine ⟨fun i m H => ∃ ρ2 h2 acc vacc, Mk1 ρ1 H1 L (.lst vacc) ρ2 H ∧ Sim X.K G ρ2 H h2 ∧ Reps X.K ρ2 H acc vacc ∧ RepS X.K ρ2 H sg σ ∧ RD X G W σ ρ1 H1 Q ((cturnsL (turnM mt mc me vs sg) n m i acc h2).bind fun r h => alloc h (.lst r)),
          ⟨l.length + 1, ρ1, h1, [], [], m1, S1', Reps.nil, R1', o1⟩, ?_⟩
        rintro i m H2 ⟨ρ2, h2, acc, vacc, m2, S2, ra, R2, o2⟩
        cases m with
        | zero => exact False.elim o2
        | succ m =>
          unfold cturnsL at o2
          have ha2 := m2.ext.pre n a ha
          cases el2 : h2[n]? with
          | none => rw [el2] at o2; exact False.elim o2
          | some ob2 =>
            cases ob2 with
            | lst l2 =>
              rw [el2] at o2
              obtain ⟨a', us, ea, ha', q1, q2⟩ := S2.lst el2 (v := .ref a) (rep_ref.mpr ⟨a, rfl, ha2⟩)
              cases ea
              have q3 : SqL X.K H2 a us := .inl (.inl q1)
              dsimp only at o2
              cases ei : l2[i]? with
              | none =>
                rw [ei] at o2
                refine .inl ⟨⟨us, q3, ?_⟩, fin m2 S2 ra o2⟩
                rw [← q2.length]
                exact List.getElem?_eq_none_iff.mp ei
              | some x =>
                rw [ei] at o2
                dsimp only at o2
                rw [Res.bind_assoc] at o2
                obtain ⟨v, gv, rv⟩ := q2.get ei
                refine .inr ⟨⟨us, v, q3, gv⟩, _, fun H' w' => ⟨m, Nat.lt_succ_self _, w'⟩, fun y H' yl => ?_⟩
                obtain ⟨rfl, gy⟩ := yl
                have := gy us q3
                rw [gv] at this; cases this
                refine turn_step m2 S2 R2 ra rv o2 (fun d h3 o3 => ?_) fun ρ3 H3 h3 acc' vacc' y m3 e3 mn S3 ra3 R3 hy o3 => ?_
                · dsimp only at o3
                  split at o3
                  · assumption
                  · exact False.elim o3
                · rcases hy with ⟨rfl, rfl⟩ | ⟨d, rfl, rfl⟩
                  · exact ⟨ρ3, h3, acc', vacc', m3, S3, ra3, R3, o3⟩
                  · dsimp only at o3
                    split at o3
                    · exact ⟨ρ3, h3, _, vacc', m3, S3, ra3, R3, o3⟩
                    · exact False.elim o3
            | dct l => rw [el2] at o2; exact False.elim o2
            | ins c l => rw [el2] at o2; exact False.elim o2
            | set l => rw [el2] at o2; exact False.elim o2
      | dct l => rw [el] at o1; exact False.elim o1
      | ins c l => rw [el] at o1; exact False.elim o1
      | set l => rw [el] at o1; exact False.elim o1
/-- a comprehension's program -/
def compM (mi : Sg → Hh → Res Sq) (mt : D → Sg → Hh → Res Sg) (mc : Sg → Hh → Res Bool) (me : Sg → Hh → Res D) (vs : List Nat) : Sg → Hh → Res D := fun sg h => (mi sg h).bind fun q h => match q with
        | .pur l => (cturns (turnM mt mc me vs sg) l [] h).bind fun r h => alloc h (.lst r)
        | .lst n => match h[n]? with
          | some (.lst l) => (cturnsL (turnM mt mc me vs sg) n (l.length + 1) 0 [] h).bind fun r h => alloc h (.lst r)
          | _ => .bad
variable {mt : D → Sg → Hh → Res Sg} {mc : Sg → Hh → Res Bool} {me : Sg → Hh → Res D} {mi : Sg → Hh → Res Sq}
theorem pm_comp (hc : X.calm = true) (hN : X.N.Nodup) (hi : PIM G X W tg iter mi) (ok : BlkOk X.N X.env.scope scope own)
    (hg : ∀ (s : Shared) (H : Hp) (C : Addr) (cl : List (Str × Addr)) (fp : List Addr), PGM G (X.blk s H scope (compEnvC scope cl C X.env) fp) F0 tg (own.map (·.2)) mt)
    (ht : ∀ (s : Shared) (H : Hp) (C : Addr) (cl : List (Str × Addr)) (fp : List Addr), PTs (X.blk s H scope (compEnvC scope cl C X.env) fp) ifs (tBo G X F0 mc))
    (he : ∀ (s : Shared) (H : Hp) (C : Addr) (cl : List (Str × Addr)) (fp : List Addr), PM G (X.blk s H scope (compEnvC scope cl C X.env) fp) F0 elt me) (hs : ∀ x, foldedSetIterable iter X.env x = pure x) :
    PM G X W (.ListComp elt [⟨tg, iter, ifs, 0⟩] scope pos) (compM mi mt mc me (own.map (·.2))) :=
  PE.mono (pe_lc hc hN hi ok hg ht he hs) fun σ H Q o => comp_ok o
theorem psm_setLc {i : Nat} {y : Str} {py spos : Pos} (hc : X.calm = true) (hN : X.N.Nodup) (hy : X.N[i]? = some y) (hyl : X.env.scope.names.lookup y = some .local)
    (hsw : swapsWith (.ListComp elt [⟨tg, iter, ifs, 0⟩] scope pos) (some (.Name y py)) spos.line X.env = pure true) (hi : PIM G X W tg iter mi) (ok : BlkOk X.N X.env.scope scope own)
    (hg : ∀ (s : Shared) (H : Hp) (C : Addr) (cl : List (Str × Addr)) (fp : List Addr), PGM G (X.blk s H scope (compEnvC scope cl C X.env) fp) F0 tg (own.map (·.2)) mt)
    (ht : ∀ (s : Shared) (H : Hp) (C : Addr) (cl : List (Str × Addr)) (fp : List Addr), PTs (X.blk s H scope (compEnvC scope cl C X.env) fp) ifs (tBo G X F0 mc))
    (he : ∀ (s : Shared) (H : Hp) (C : Addr) (cl : List (Str × Addr)) (fp : List Addr), PM G (X.blk s H scope (compEnvC scope cl C X.env) fp) F0 elt me) (hs : ∀ x, foldedSetIterable iter X.env x = pure x) :
    PSM G X W (.Assign [.Name y py] (.ListComp elt [⟨tg, iter, ifs, 0⟩] scope pos) spos) (fun sg h => (compM mi mt mc me (own.map (·.2)) sg h).st sg fun v h => (if i < sg.length then .ok (sg.set i (some v)) h else .bad : Res Sg).st sg fun sg h => .ok (.nx, sg) h) := by
  refine PS.mono (ps_setLc hc hN hy hyl hsw hi ok hg ht he hs) fun D σ H ⟨ρ, sg, h, S, R, o⟩ => comp_ok (W := W) ⟨ρ, sg, h, S, R, (Out.st R o).imp fun ρ1 H1 h1 d e1 S1 o1 v rv => ?_⟩
  split at o1
  · exact Out.now S1 o1 _ ((R.ext e1).set i rv)
  · exact False.elim o1

/-! ### dict displays -/
/-- the pairs' programs, one after another -/
def evp : List ((Sg → Hh → Res D) × (Sg → Hh → Res D)) → Sg → Hh → Res (List D)
  | [], _, h => .ok [] h
  | (mk, mv) :: r, sg, h => (mk sg h).bind fun x h => (mv sg h).bind fun y h => (evp r sg h).bind fun xs h => .ok (x :: y :: xs) h
theorem Mon.trans {ρ1 ρ2 : List Addr} {H1 H2 : Hp} (a : Mon ρ H ρ1 H1) (b : Mon ρ1 H1 ρ2 H2) : Mon ρ H ρ2 H2 := ⟨fun n x h => b.pre n x (a.pre n x h), fun x xs h => b.tup x xs (a.tup x xs h), fun x o u h => b.frz x o u (a.frz x o u h)⟩
/-- flat rows of pairs -/
inductive RepP (K : PySem.W.Frag) (ρ : List Addr) (H : Hp) : List D → List (V × V) → Prop where
  | nil : RepP K ρ H [] []
  | cons {k d : D} {x y : V} {r : List D} {s : List (V × V)} : Rep K ρ H k x → Rep K ρ H d y → RepP K ρ H r s → RepP K ρ H (k :: d :: r) ((x, y) :: s)
theorem pairs_ok {L : Addr} {u : HO} {Q : List (V × V) → Hp → Prop} {ρ1 : List Addr} {H1 : Hp} : ∀ (ms : List ((Sg → Hh → Res D) × (Sg → Hh → Res D))) {ρ2 : List Addr} {H2 : Hp} {sg : Sg} {h : Hh} (k : List D → Hh → Res D) {Q0 : VK}
    (_ : Mk1 ρ1 H1 L u ρ2 H2) (_ : Sim X.K G ρ2 H2 h) (_ : RepS X.K ρ2 H2 sg σ) (_ : RD X G W σ ρ1 H1 Q0 ((evp ms sg h).bind k))
    (_ : ∀ ρ3 H3 h3 ds ps, Mk1 ρ1 H1 L u ρ3 H3 → Mon ρ2 H2 ρ3 H3 → Sim X.K G ρ3 H3 h3 → RepP X.K ρ3 H3 ds ps → RD X G W σ ρ1 H1 Q0 (k ds h3) → Q ps H3),
    tPairs (ms.map fun p => (tD G X W p.1, tD G X W p.2)) σ H2 Q
  | [], ρ2, H2, sg, h, k, Q0, m, S, R, o, f => f ρ2 H2 h [] [] m ⟨fun _ _ z => z, fun _ _ z => z, fun _ _ _ z => z⟩ S .nil o
  | (mk, mv) :: r, ρ2, H2, sg, h, k, Q0, m, S, R, o, f => by
    unfold evp at o
    simp only [Res.bind_assoc] at o
    refine ⟨ρ2, sg, h, S, R, (Out.ext m.ext (Out.bind0 o)).imp fun ρ3 H3 h3 x e3 S3 o3 vx rx => ⟨ρ3, sg, h3, S3, R.ext e3, (Out.ext (m.go e3).ext (Out.bind0 o3)).imp fun ρ4 H4 h4 y e4 S4 o4 vy ry => ?_⟩⟩
    refine pairs_ok (Q := fun ps H3 => Q ((vx, vy) :: ps) H3) (ρ1 := ρ1) (H1 := H1) (L := L) (u := u) r (fun xs h => k (x :: y :: xs) h) ((m.go e3).go e4) S4 ((R.ext e3).ext e4) o4 fun ρ5 H5 h5 ds ps m5 mn S5 rp o5 => ?_
    exact f ρ5 H5 h5 _ _ m5 ((e3.trans e4).mon.trans mn) S5 (.cons (Rep.mon mn _ _ (Rep.ext e4 _ _ rx)) (Rep.mon mn _ _ ry) rp) o5
theorem pairUp_ok {K : PySem.W.Frag} : ∀ {ds : List D} {ps : List (V × V)} {acc kvs : List (D × D)} {pacc : List (Key × V)}, RepP K ρ H ds ps → RepD K ρ H acc pacc → pairUp ds acc = some kvs →
    ∃ qs : List (Key × V), ps = qs.map (fun kv => (L2.kV kv.1, kv.2)) ∧ RepD K ρ H kvs (mergeK pacc qs)
  | _, _, _, _, _, .nil, ra, e => by
    unfold pairUp at e
    cases e
    exact ⟨[], rfl, ra⟩
  | _, _, _, _, _, .cons rk rd r, ra, e => by
    unfold pairUp at e
    split at e
    · rename_i hk
      obtain ⟨κ, hκ, rfl⟩ := repK_of hk rk
      obtain ⟨qs, rfl, h2⟩ := pairUp_ok r (ra.put hκ rd) e
      exact ⟨(κ, _) :: qs, rfl, h2⟩
    · cases e
theorem repP_len {K : PySem.W.Frag} {ds : List D} {ps : List (V × V)} (r : RepP K ρ H ds ps) : ds.length = 2 * ps.length := by
  induction r with
  | nil => rfl
  | cons _ _ _ ih => simp [ih]; omega
def dctM (ms : List ((Sg → Hh → Res D) × (Sg → Hh → Res D))) : Sg → Hh → Res D := fun sg h => (evp ms sg h).bind fun xs h => (ofOpt (pairUp xs []) h).bind fun kvs h => if xs.length ≤ 30 then alloc h (.dct kvs) else .bad
theorem pm_dct {keys : List (Option Expr)} {values : List Expr} {ms : List ((Sg → Hh → Res D) × (Sg → Hh → Res D))} (h : PPs X pos keys values (ms.map fun p => (tD G X W p.1, tD G X W p.2))) (hall : keys.all (·.isSome) = true) (hl : keys.length = values.length) (h0 : keys ≠ [])
    (h15 : keys.length ≤ 15) : PM G X W (.Dict keys values pos) (dctM ms) := by
  refine PE.mono (pe_disp h hall hl h0 h15) fun σ H Q ⟨ρ, sg, h, S, R, o⟩ L hL => ?_
  have m1 : Mk1 ρ H L (.dK []) ρ (upd H L (.dK [])) := Mk1.ini S hL
  refine pairs_ok (ρ1 := ρ) (H1 := H) (L := L) (u := .dK []) ms _ m1 (S.tmp hL) (R.ext m1.ext) o fun ρ3 H3 h3 ds ps m3 mn S3 rp o3 => ⟨m3.at_, ?_⟩
  cases e : pairUp ds [] with
  | none => rw [e] at o3; exact False.elim o3
  | some kvs =>
    rw [e] at o3
    simp only [ofOpt_some, Res.bind_ok] at o3
    split at o3
    · rename_i hl3
      obtain ⟨qs, rfl, rd⟩ := pairUp_ok rp .nil e
      have l1 := repP_len rp
      rw [List.length_map] at l1
      refine ⟨qs, rfl, by omega, ?_⟩
      have m4 := m3.put (u' := .dK (mergeK [] qs))
      have mp : Mon ρ3 H3 ρ3 (upd H3 L (.dK (mergeK [] qs))) := mon_tmp (fun xs z => by rw [m3.at_] at z; cases z) (fun _ _ z => by rw [m3.at_] at z; cases z)
      exact m4.fin (o := .dct kvs) (S3.put m3.out (fun xs z => by rw [m3.at_] at z; cases z) (fun _ _ z => by rw [m3.at_] at z; cases z)) (fun _ z => by cases z) (fun _ _ z => by cases z) ⟨_, upd_same, (rd.mon mp).mon mon_more⟩ o3
    · exact False.elim o3
theorem pm_dct0 : PM G X W (.Dict [] [] pos) (fun _ h => alloc h (.dct [])) := by
  refine PE.mono pe_dnewK fun σ H Q ⟨ρ, sg, h, S, R, o⟩ p hp => ?_
  exact o _ _ (ext_new hp) (S.new hp ⟨[], upd_same, .nil⟩) _ (rep_ref.mpr ⟨p, rfl, by rw [← S.len]; simp⟩)
end
end Z

/-! ZJ: from the program's tree to the small language, and that it is sound: expressions. -/
namespace Z
open PySem PySem.Spec PyProof.Rows L2

theorem toS_nm (x : Str) : toS x.cps.toList = x := by simp [toS]
/-- what a block's text is read with -/
structure Tc where
  N : List Str
  sc : Scope
  fn : Str → Bool
  gf : Str → Option Fid
  gc : Str → Option (Nm × Fid)
  gl : Str → Option D
  gd : Str → Option (List (Nm × D))
  nb : Str → Bool
def Tc.blk (tc : Tc) (scope : Scope) : Tc := { tc with sc := relS scope tc.sc, fn := fun x => scope.names.lookup x == some .cell }
def visB (sc : Scope) (x : Str) : Bool := match sc.names.lookup x with
  | some .local => true | some .cell => true | some .free => true
  | _ => false
def locB (sc : Scope) (x : Str) : Bool := match sc.names.lookup x with
  | some .local => true | some .cell => true
  | _ => false
def lclB (sc : Scope) (x : Str) : Bool := match sc.names.lookup x with
  | some .local => true
  | _ => false
def gloB (sc : Scope) (x : Str) : Bool := match sc.names.lookup x with
  | some .globalImplicit => true
  | _ => false
def oddB (x : Str) : Bool := (x == ("__debug__" : Str)) || (x == ("__classdict__" : Str)) || (x == ("__name__" : Str))
def ixOf : List Str → Str → Option Nat
  | [], _ => none
  | y :: r, x => if decide (y = x) then some 0 else (ixOf r x).map (· + 1)
def plainBase : Expr → Bool
  | .Call (.Name _ _) [] [] _ => false
  | _ => true
def noSl : Expr → Bool
  | .Slice _ _ _ _ => false
  | _ => true
def notSet : Expr → Bool
  | .Set _ _ _ => false
  | _ => true
/-- a built-in by its name and the number of its arguments -/
def bltOf (x : Nm) (n : Nat) : Option Bf :=
  if x = [108, 101, 110] then some .len
  else if x = [97, 98, 115] then some .abs
  else if x = [105, 110, 116] then some .int
  else if x = [115, 116, 114] then some .str
  else if x = [116, 117, 112, 108, 101] then some .tuple
  else if x = [108, 105, 115, 116] then some .list
  else if x = [115, 117, 109] then some .sum
  else if x = [109, 97, 120] ∧ n = 2 then some .max2
  else if x = [109, 105, 110] ∧ n = 2 then some .min2
  else if x = [111, 114, 100] then some .ord
  else if x = [115, 111, 114, 116, 101, 100] ∧ n = 1 then some .sorted
  else if x = [109, 97, 120] ∧ n = 1 then some .max1
  else if x = [109, 105, 110] ∧ n = 1 then some .min1
  else if x = [97, 108, 108] ∧ n = 1 then some .all
  else if x = [97, 110, 121] ∧ n = 1 then some .any
  else if x = [100, 105, 99, 116] ∧ n = 1 then some .dict
  else none
/-- sorted(set(e)): e -/
def ssOf (tc : Tc) (x : Str) (es : List Expr) : Option Expr := match es with
  | [.Call (.Name y _) [e] [] _] => if (decide (x = ("sorted" : Str)) && decide (y = ("set" : Str)) && gloB tc.sc y && tc.nb y && noStar e) = true then some e else none
  | _ => none
/-- tuple(zip(es)): es -/
def tzOf (tc : Tc) (x : Str) (es : List Expr) : Option (List Expr) := match es with
  | [.Call (.Name y _) es2 [] _] => if (decide (x = ("tuple" : Str)) && decide (y = ("zip" : Str)) && gloB tc.sc y && tc.nb y && es2.all noStar) = true then some es2 else none
  | _ => none
/-- a table of the module's top -/
def tabOf (tc : Tc) : Expr → Option (Str × List (Nm × D))
  | .Name x _ => if (gloB tc.sc x && !oddB x) = true then (match tc.gd x with | some kvs => some (x, kvs) | none => none) else none
  | _ => none
def isaName (x : Nm) : Bool := decide (x = [105, 115, 105, 110, 115, 116, 97, 110, 99, 101])
def tyOf (x : Nm) : Option String :=
  if x = [98, 111, 111, 108] then some "bool"
  else if x = [105, 110, 116] then some "int"
  else if x = [115, 116, 114] then some "str"
  else if x = [116, 117, 112, 108, 101] then some "tuple"
  else if x = [108, 105, 115, 116] then some "list"
  else if x = [100, 105, 99, 116] then some "dict"
  else none
def isRange (x : Str) : Bool := decide (x = ("range" : Str))
def okSB (s : Nm) : Bool := decide (s.length ≤ 16777216) && s.all fun c => decide (c < 0x110000)
def trBool (te : Expr → Option E) (op : BoolOp) : List Expr → Option E
  | [] => none
  | [a] => te a
  | a :: b :: r => match te a, trBool te op (b :: r) with
    | some x, some y => match op with
      | .And => some (.and x y)
      | .Or => some (.or x y)
    | _, _ => none
def trO (te : Expr → Option E) : Option Expr → Option (Option E)
  | none => some none
  | some e => match te e with
    | some x => some (some x)
    | none => none
def trT0 (te : Expr → Option E) (tc : Tc) : Expr → Option T
  | .Name x _ => match ixOf tc.N x with
    | some i => if (locB tc.sc x && (tc.fn x || lclB tc.sc x)) = true then some (.nm i) else none
    | none => none
  | .Subscript a i _ => if noSl i = true then match te a, te i with
    | some x, some y => some (.ix x y)
    | _, _ => none
    else none
  | _ => none
def trT (te : Expr → Option E) (tc : Tc) (e : Expr) : Option T :=
  match e with
  | .Tuple es _ _ => match mapO (trT0 te tc) es with
    | some ts => some (.tup ts)
    | none => none
  | e => trT0 te tc e
/-- the names that a target sets -/
def tnm0 : T → List Nat
  | .nm i => [i]
  | _ => []
def tnm : T → List Nat
  | .nm i => [i]
  | .tup ts => ts.flatMap tnm0
  | _ => []
def trI (te : Expr → Option E) (tc : Tc) (e : Expr) : Option I :=
  match e with
  | .Call (.Name x p) es ks p2 => if isRange x then
      (if gloB tc.sc x && tc.nb x then match es, ks with
        | [a], [] => if noStar a then match te a with
          | some x => some (.rng1 x)
          | none => none
          else none
        | [a, b], [] => if noStar a && noStar b then match te a, te b with
          | some x, some y => some (.rng2 x y)
          | _, _ => none
          else none
        | _, _ => none
      else none)
    else match te (.Call (.Name x p) es ks p2) with
      | some x => some (.seq x)
      | none => none
  | .Set _ _ _ => none
  | e => match te e with
    | some x => some (.seq x)
    | none => none
def ownOf (N : List Str) : List (Str × NameKind) → List (Str × Nat)
  | [] => []
  | (x, k) :: r => match k with
    | .local => (match ixOf N x with | some i => [(x, i)] | none => []) ++ ownOf N r
    | .cell => (match ixOf N x with | some i => [(x, i)] | none => []) ++ ownOf N r
    | _ => ownOf N r
def trP (te : Expr → Option E) : List (Option Expr) → List Expr → Option (List E)
  | [], [] => some []
  | some k :: ks, v :: vs => match te k, te v, trP te ks vs with
    | some x, some y, some r => some (x :: y :: r)
    | _, _, _ => none
  | _, _ => none
def trCs (te : Expr → Option E) : List Expr → Option (Option E)
  | [] => some none
  | [c] => match te c with
    | some x => some (some x)
    | none => none
  | _ => none
/-- a call of a global name -/
def trC (te : Expr → Option E) (tc : Tc) (x : Str) (es : List Expr) : Option E :=
  if (gloB tc.sc x && !oddB x && es.all noStar) = true then
    match tc.gf x with
    | some f => match mapO te es with
      | some l => some (.call f l)
      | none => none
    | none => match tc.gc x with
      | some (c, f) => match mapO te es with
        | some l => some (.make c f l)
        | none => none
      | none => if tc.nb x = true then
          (if isaName x.cps.toList = true then match es with
            | [e, .Name tn _] => if (gloB tc.sc tn && !oddB tn && tc.nb tn) = true then match tyOf tn.cps.toList, te e with
              | some t, some a => some (.blt (.isa t) [a])
              | _, _ => none
              else none
            | _ => none
          else match ssOf tc x es with
            | some e => match te e with
              | some a => some (.sset a)
              | none => none
            | none => match tzOf tc x es with
              | some es2 => match mapO te es2 with
                | some l => some (.tzip l)
                | none => none
              | none => match bltOf x.cps.toList es.length with
                | some f => match mapO te es with
                  | some l => some (.blt f l)
                  | none => none
                | none => none)
        else none
  else none
def trE1 (te : Tc → Expr → Option E) (tc : Tc) (e : Expr) : Option E :=
  match e with
  | .Name x _ => if (visB tc.sc x && !oddB x) = true then (match ixOf tc.N x with
      | some i => some (.var i)
      | none => none)
    else if (gloB tc.sc x && !oddB x) = true then match tc.gl x with
      | some d => some (.cst d)
      | none => none
    else none
  | .Constant c _ _ => match c with
    | .int i => some (.cst (.int i))
    | .str s => if okSB s.cps.toList = true then some (.cst (.str s.cps.toList)) else none
    | .none => some (.cst .non)
    | .bool b => some (.cst (.bl b))
    | _ => none
  | .Tuple es _ _ => if es.all noStar = true then match mapO (te tc) es with
      | some l => some (.tup l)
      | none => none
    else none
  | .List es _ => if es.all noStar = true then match mapO (te tc) es with
      | some l => some (.lst l)
      | none => none
    else none
  | .BinOp a op b _ => match te tc a, te tc b with
    | some x, some y => some (.bin op x y)
    | _, _ => none
  | .UnaryOp op a _ => match op, te tc a with
    | .USub, some x => some (.neg x)
    | .Not, some x => some (.nt x)
    | _, _ => none
  | .BoolOp op es _ => trBool (te tc) op es
  | .Compare a ops es _ => match ops, es with
    | [op], [b] => if behindInMarks op b = true then none else match te tc a, te tc b with
      | some x, some y => some (.cmp op x y)
      | _, _ => none
    | [op, op'], [b, c] => if lastMarks [op, op'] [b, c] = true then none else match te tc a, te tc b, te tc c with
      | some x, some y, some z => some (.chain op op' x y z)
      | _, _, _ => none
    | _, _ => none
  | .Subscript a b _ => match b with
    | .Slice lo hi st _ => match st with
      | none => match te tc a, trO (te tc) lo, trO (te tc) hi with
        | some x, some l, some h => some (.sli x l h)
        | _, _, _ => none
      | some _ => none
    | b => match tabOf tc a with
      | some (_, kvs) => match te tc b with
        | some y => some (.tab kvs y)
        | none => none
      | none => match te tc a, te tc b with
        | some x, some y => some (.idx x y)
        | _, _ => none
  | .Attribute a x _ => if plainBase a = true then match te tc a with
      | some y => some (.fld y x.cps.toList)
      | none => none
    else none
  | .Call f es ks pos => match f, ks with
    | .Name x _, [] => trC (te tc) tc x es
    | .Attribute o x apos, [] => if (plainBase o && es.all noStar && decide (es.length < 30) && (apos.endLine == pos.line)) = true then match te tc o, mapO (te tc) es with
        | some y, some l => some (.mth y x.cps.toList l)
        | _, _ => none
      else none
    | _, _ => none
  | .Dict keys values _ => if (keys.all (·.isSome) && decide (keys.length = values.length) && decide (keys.length ≤ 15)) = true then match trP (te tc) keys values with
      | some l => some (.dct l)
      | none => none
    else none
  | .ListComp elt gs scope _ => match gs with
    | [⟨tg, iter, ifs, as⟩] => if (as == 0 && blkC tc.N tc.sc scope (ownOf tc.N scope.names)) = true then
        match trT (te (tc.blk scope)) (tc.blk scope) tg, trI (te tc) tc iter, trCs (te (tc.blk scope)) ifs, te (tc.blk scope) elt with
        | some t, some i, some c, some x => if (tnm t).all (fun i => decide (i ∈ (ownOf tc.N scope.names).map (·.2))) = true then some (.comp ((ownOf tc.N scope.names).map (·.2)) t i c x) else none
        | _, _, _, _ => none
      else none
    | _ => none
  | _ => none
def trE : Nat → Tc → Expr → Option E
  | 0 => fun _ _ => none
  | n + 1 => trE1 (trE n)

/-! ### soundness -/
/-- what is known of the program where a block runs -/
structure Wd (G : Gt) (P : Fid → Option Fn) (k : Nat) (tc : Tc) (X : Cx) : Prop where
  fns : ∀ f F, P f = some F → FnFact G P k X f F
  gfn : ∀ x f, tc.gf x = some f → X.mg x = some (.ref (G.fad f)) ∧ PySem.W.keepIn X.K (.ref (G.fad f)) = true
  gcl : ∀ x c f, tc.gc x = some (c, f) → X.mg x = some (.ref (G.cad c)) ∧ Mk X.K (G.cad c) (G.fad f) ∧ ClsOk X.K G c
  gno : ∀ x, tc.nb x = true → X.mg x = none
  gdc : ∀ x kvs, tc.gd x = some kvs → ∃ t, X.mg x = some (.ref t) ∧ ∀ s d, fget kvs s = some d → ∃ v, KDct X.K X.w t (toS s) v ∧ ∀ ρ H, Rep X.K ρ H d v
  gco : ∀ x d, tc.gl x = some d → ∃ v u, X.mg x = some u ∧ RelV v u ∧ ∀ ρ H, Rep X.K ρ H d v
structure Good (G : Gt) (P : Fid → Option Fn) (k : Nat) (tc : Tc) (X : Cx) (W : WX) : Prop where
  N : X.N = tc.N
  nd : X.N.Nodup
  sc : X.env.scope = tc.sc
  fn : X.fn = tc.fn
  calm : X.calm = true
  room : Room (2 * k + 1) X.A
  takes : Takes X W
  wd : Wd G P k tc X

section
variable {G : Gt} {P : Fid → Option Fn} {k : Nat}
abbrev CL (G : Gt) (P : Fid → Option Fn) (k : Nat) : Fid → List D → Hh → Res D := callG P (runK P G.tb k)
def Sound (G : Gt) (P : Fid → Option Fn) (k : Nat) (te : Tc → Expr → Option E) : Prop := ∀ (tc : Tc) (e : Expr) (m : E), te tc e = some m → ∀ (X : Cx) (W : WX), Good G P k tc X W →
  PM G X W e (ev (CL G P k) G.tb m) ∧ PMT G X W e (et (CL G P k) G.tb m)
theorem PM.cong {X : Cx} {W : WX} {e : Expr} {m m' : Sg → Hh → Res D} (h : PM G X W e m) (hm : ∀ sg h, m' sg h = m sg h) : PM G X W e m' := by
  have : m' = m := by funext sg h; exact hm sg h
  rw [this]; exact h
theorem ixOf_get : ∀ {N : List Str} {x : Str} {i : Nat}, ixOf N x = some i → N[i]? = some x
  | [], _, _, h => by unfold ixOf at h; cases h
  | y :: r, x, i, h => by
    unfold ixOf at h
    split at h
    · rename_i e
      cases h
      rw [of_decide_eq_true e] <;> rfl
    · cases e : ixOf r x with
      | none => rw [e] at h; cases h
      | some j =>
        rw [e] at h
        cases h
        show r[j]? = some x
        exact ixOf_get e
theorem vis_of {sc : Scope} {x : Str} (h : visB sc x = true) : Vis sc x := by
  unfold visB at h
  split at h
  · exact .inl (by assumption)
  · exact .inr (.inl (by assumption))
  · exact .inr (.inr (by assumption))
  · cases h
theorem loc_of {sc : Scope} {x : Str} (h : locB sc x = true) : L2.Loc sc x := by
  unfold locB at h
  split at h
  · exact .inl (by assumption)
  · exact .inr (by assumption)
  · cases h
theorem glo_of {X : Cx} {sc : Scope} {x : Str} (h : gloB sc x = true) (e : X.env.scope = sc) : Gl X x := by
  unfold gloB at h
  split at h
  · show X.env.scope.names.lookup x = _
    rw [e]; assumption
  · cases h
theorem odd_of {x : Str} (h : oddB x = false) : (x == ("__debug__" : Str)) = false ∧ (x == ("__classdict__" : Str)) = false ∧ x ≠ "__name__" := by
  unfold oddB at h
  rw [Bool.or_eq_false_iff, Bool.or_eq_false_iff] at h
  exact ⟨h.1.1, h.1.2, fun e => by rw [e] at h; exact absurd h.2 (by simp)⟩
theorem room_u {A : Around} (r : Room (2 * k + 1) A) : A.units + 64 < cLine := by
  exact r.units
variable {te : Tc → Expr → Option E} {tc : Tc} {X : Cx} {W : WX}
theorem blk_good {scope : Scope} {s : Shared} {H : Hp} {C : Addr} {cl : List (Str × Addr)} {fp : List Addr} (g : Good G P k tc X W) : Good G P k (tc.blk scope) (X.blk s H scope (compEnvC scope cl C X.env) fp) F0 where
  N := g.N
  nd := g.nd
  sc := by
    show relS scope X.env.scope = relS scope tc.sc
    rw [g.sc]
  fn := rfl
  calm := g.calm
  room := g.room
  takes := fun u s' ⟨_, _, _, _, _, _, _, _, _, _, _, _, _, _, _, _, w⟩ => False.elim w
  wd := ⟨g.wd.fns, g.wd.gfn, g.wd.gcl, g.wd.gno, g.wd.gdc, g.wd.gco⟩
theorem sound_list (ih : Sound G P k te) (g : Good G P k tc X W) : ∀ {es : List Expr} {l : List E}, es.all noStar = true → mapO (te tc) es = some l → PMs G X W es (evs (CL G P k) G.tb l)
  | [], l, _, h => by
    unfold mapO at h
    cases h
    have : evs (CL G P k) G.tb [] = fun _ h => .ok [] h := by funext sg h; rw [evs]
    rw [this]
    exact pms_nil
  | e :: es, l, hs, h => by
    rw [List.all_cons, Bool.and_eq_true] at hs
    unfold mapO at h
    split at h
    · rename_i m hm
      split at h
      · rename_i ms hms
        cases h
        have : evs (CL G P k) G.tb (m :: ms) = fun sg h => (ev (CL G P k) G.tb m sg h).bind fun x h => (evs (CL G P k) G.tb ms sg h).bind fun xs h => .ok (x :: xs) h := by funext sg h; rw [evs]
        rw [this]
        exact pms_cons (ih tc e m hm X W g).1 (sound_list ih g hs.2 hms) (star_cons hs.1 es X.env)
      · cases h
    · cases h
theorem sound_O (ih : Sound G P k te) (g : Good G P k tc X W) {o : Option Expr} {l : Option E} (h : trO (te tc) o = some l) : PO X o (tOi G X W (evo (CL G P k) G.tb l)) := by
  unfold trO at h
  split at h
  · cases h
    have : evo (CL G P k) G.tb none = fun _ h => .ok none h := by funext sg h; rw [evo]
    rw [this]
    exact pmo_none
  · split at h
    · rename_i m hm
      cases h
      have : evo (CL G P k) G.tb (some m) = fun sg h => (ev (CL G P k) G.tb m sg h).bind fun x h => match x with | .int i => .ok (some i) h | _ => .bad := by funext sg h; rw [evo] <;> rfl
      rw [this]
      exact pmo_some (ih tc _ m hm X W g).1
    · cases h
theorem sound_T0 (ih : Sound G P k te) (g : Good G P k tc X W) {e : Expr} {t : T} {ns : List Nat} (h : trT0 (te tc) tc e = some t) (hn : ∀ i ∈ tnm0 t, i ∈ ns) : PGM G X W e ns (tg (CL G P k) G.tb t) := by
  unfold trT0 at h
  split at h
  · rename_i x p
    split at h
    · rename_i i hi
      split at h
      · rename_i hc
        cases h
        rw [Bool.and_eq_true, Bool.or_eq_true] at hc
        have : tg (CL G P k) G.tb (.nm i) = fun v sg h => if i < sg.length then .ok (sg.set i (some v)) h else .bad := by funext v sg h; rw [tg]
        rw [this]
        refine pgm_nm g.nd (by rw [g.N]; exact ixOf_get hi) (by rw [g.sc]; exact loc_of hc.1) ?_ (hn i (by simp [tnm0]))
        rcases hc.2 with z | z
        · exact .inl (by rw [g.fn]; exact z)
        · refine .inr ?_
          rw [g.sc]
          unfold lclB at z
          split at z
          · assumption
          · cases z
      · cases h
    · cases h
  · rename_i a i p
    split at h
    · rename_i hc
      split at h
      · rename_i x y hx hy
        cases h
        have : tg (CL G P k) G.tb (.ix x y) = fun v sg h => (ev (CL G P k) G.tb x sg h).bind fun x h => (ev (CL G P k) G.tb y sg h).bind fun y h => (setix x y v h).bind fun _ h => .ok sg h := by funext v sg h; rw [tg]
        rw [this]
        have hu := room_u g.room
        refine pgm_ix (by omega) (ih tc a x hx X W g).1 (ih tc i y hy X W g).1 ?_
        cases i <;> first | (intro _; rfl) | cases hc
      · cases h
    · cases h
  · cases h
theorem asg_one {e : Expr} {es : List Expr} {t : T} (h : trT0 (te tc) tc e = some t) (env : Env) : assignEach (e :: es) env = (false, assign e env) :: assignEach es env := by
  unfold trT0 at h
  split at h
  · rfl
  · rfl
  · cases h
theorem sound_Ts (ih : Sound G P k te) (g : Good G P k tc X W) {ns : List Nat} : ∀ {es : List Expr} {ts : List T}, mapO (trT0 (te tc) tc) es = some ts → (∀ i ∈ ts.flatMap tnm0, i ∈ ns) →
    PGsM G X es ns (tgs (CL G P k) G.tb ts) ∧ (assignEach es X.env).length = ts.length ∧ (assignEach es X.env).findIdx? (·.1) = none
  | [], ts, h, hn => by
    unfold mapO at h
    cases h
    refine ⟨?_, rfl, rfl⟩
    have : tgs (CL G P k) G.tb [] = fun l sg h => match l with | [] => .ok sg h | _ => .bad := by
      funext l sg h
      cases l <;> simp [tgs]
    rw [this]
    exact pgsm_nil
  | e :: es, ts, h, hn => by
    unfold mapO at h
    split at h
    · rename_i t ht
      split at h
      · rename_i tt htt
        cases h
        have ih2 := sound_Ts (ns := ns) ih g htt fun i hi => hn i (by simp only [List.flatMap_cons, List.mem_append]; exact .inr hi)
        refine ⟨?_, by rw [asg_one ht]; simp [ih2.2.1], by rw [asg_one ht, List.findIdx?_cons]; simp [ih2.2.2]⟩
        have : tgs (CL G P k) G.tb (t :: tt) = fun l sg h => match l with | v :: vs => (tg (CL G P k) G.tb t v sg h).bind fun sg h => tgs (CL G P k) G.tb tt vs sg h | [] => .bad := by
          funext l sg h
          cases l <;> simp [tgs]
        rw [this]
        exact pgsm_cons (sound_T0 ih g ht fun i hi => hn i (by simp only [List.flatMap_cons, List.mem_append]; exact .inl hi)) ih2.1 (by rw [asg_one ht] <;> rfl)
      · cases h
    · cases h
theorem sound_T (ih : Sound G P k te) (g : Good G P k tc X W) {e : Expr} {t : T} {ns : List Nat} (h : trT (te tc) tc e = some t) (hn : ∀ i ∈ tnm t, i ∈ ns) : PGM G X W e ns (tg (CL G P k) G.tb t) := by
  unfold trT at h
  split at h
  · split at h
    · rename_i es kk p ts hts
      cases h
      obtain ⟨h1, h2, h3⟩ := sound_Ts ih g (ns := ns) hts hn
      have : tg (CL G P k) G.tb (.tup ts) = fun v sg h => match v with | .tup l => if l.length = ts.length then (tgs (CL G P k) G.tb ts l sg h).calm else .bad | _ => .bad := by
        funext v sg h
        cases v <;> simp [tg]
      rw [this]
      exact pgm_tup g.calm h1 h2 h3
    · cases h
  · refine sound_T0 ih g h fun i hi => hn i ?_
    unfold trT0 at h
    split at h
    · split at h
      · split at h
        · cases h; exact hi
        · cases h
      · cases h
    · split at h
      · split at h
        · cases h; cases hi
        · cases h
      · cases h
    · cases h
theorem sound_I (ih : Sound G P k te) (g : Good G P k tc X W) {e tgE : Expr} {m : I} (h : trI (te tc) tc e = some m) : PIM G X W tgE e (ei (CL G P k) G.tb m) ∧ ∀ x, foldedSetIterable e X.env x = pure x := by
  have seq : ∀ {e : Expr} {x : E}, te tc e = some x → PIM G X W tgE e (ei (CL G P k) G.tb (.seq x)) := by
    intro e x hx
    have := pim_seq (tg := tgE) (ih tc e x hx X W g).1
    have e2 : ei (CL G P k) G.tb (.seq x) = (fun sg h => (ev (CL G P k) G.tb x sg h).bind fun x h => match x with
      | .tup l => .ok (.pur l) h
      | .rol l => .ok (.pur l) h
      | .ref n => match h[n]? with
        | some (.lst _) => .ok (.lst n) h
        | _ => .bad
      | _ => .bad) := by funext sg h; rw [ei] <;> rfl
    rw [e2]
    exact this
  unfold trI at h
  split at h
  · rename_i x p es ks p2
    refine ⟨?_, fun _ => rfl⟩
    split at h
    · rename_i hr
      have hr := of_decide_eq_true hr
      subst hr
      split at h
      · rename_i hc
        rw [Bool.and_eq_true] at hc
        have hg := glo_of (X := X) hc.1 g.sc
        have hm := g.wd.gno _ hc.2
        split at h
        · rename_i a
          split at h
          · rename_i hs
            split at h
            · rename_i y hy
              cases h
              have e2 : ei (CL G P k) G.tb (.rng1 y) = (fun sg h => (ev (CL G P k) G.tb y sg h).bind fun x h => match x with
                | .int i => if inRng i then .ok (.pur (rngL 0 i)) h else .bad
                | _ => .bad) := by funext sg h; rw [ei] <;> rfl
              rw [e2]
              exact pim_rng1 hg hm (ih tc a y hy X W g).1 hs
            · cases h
          · cases h
        · rename_i a b
          split at h
          · rename_i hs
            rw [Bool.and_eq_true] at hs
            split at h
            · rename_i x y hx hy
              cases h
              have e2 : ei (CL G P k) G.tb (.rng2 x y) = (fun sg h => (ev (CL G P k) G.tb x sg h).bind fun x h => (ev (CL G P k) G.tb y sg h).bind fun y h => match x, y with
                | .int i, .int j => if inRng i && inRng j then .ok (.pur (rngL i j)) h else .bad
                | _, _ => .bad) := by funext sg h; rw [ei] <;> rfl
              rw [e2]
              exact pim_rng2 hg hm (ih tc a x hx X W g).1 (ih tc b y hy X W g).1 hs.1 hs.2
            · cases h
          · cases h
        · cases h
      · cases h
    · split at h
      · rename_i y hy
        cases h
        exact seq hy
      · cases h
  · cases h
  · rename_i hno
    split at h
    · rename_i y hy
      cases h
      refine ⟨seq hy, fun _ => ?_⟩
      cases e <;> first | rfl | exact absurd rfl (hno _ _ _)
    · cases h

def plainTest : Expr → Bool
  | .UnaryOp .Not _ _ => false
  | .BoolOp _ _ _ => false
  | .IfExp _ _ _ _ => false
  | .Compare _ _ _ _ => false
  | _ => true
theorem isTrue_not_special {e : Expr} {env : Env} (h : plainTest e = true) : ∀ whole, isTrue e env whole = (do let v ← whole; standAt e.pos; holding [v] (truthy v)) := by
  intro whole
  cases e <;> first | rfl | cases h | (rename_i op _ _; cases op <;> first | rfl | cases h)
theorem sound_P (ih : Sound G P k te) (g : Good G P k tc X W) {pos : Pos} : ∀ {ks : List (Option Expr)} {vs : List Expr} {l : List E}, trP (te tc) ks vs = some l →
    ∃ ms : List ((Sg → Hh → Res D) × (Sg → Hh → Res D)), PPs X pos ks vs (ms.map fun p => (tD G X W p.1, tD G X W p.2)) ∧ ∀ sg h, evp ms sg h = evs (CL G P k) G.tb l sg h := by
  intro ks
  induction ks with
  | nil =>
    intro vs l h
    cases vs with
    | nil => unfold trP at h; cases h; exact ⟨[], pps_nil, fun sg h => by rw [evs, evp]⟩
    | cons v vs => unfold trP at h; cases h
  | cons q ks ihk =>
    intro vs l h
    cases vs with
    | nil => cases q <;> (unfold trP at h; cases h)
    | cons v vs =>
      cases q with
      | none => unfold trP at h; cases h
      | some q =>
        unfold trP at h
        split at h
        · rename_i x y r hx hy hr
          cases h
          obtain ⟨ms, h1, h2⟩ := ihk hr
          refine ⟨(ev (CL G P k) G.tb x, ev (CL G P k) G.tb y) :: ms, pps_cons (ih tc q x hx X W g).1 (ih tc v y hy X W g).1 h1, fun sg h => ?_⟩
          rw [evs, evp]
          congr 1
          funext a h1
          rw [evs, Res.bind_assoc]
          congr 1
          funext b h3
          rw [h2, Res.bind_assoc]
          rfl
        · cases h
theorem sound_Bool (ih : Sound G P k te) (g : Good G P k tc X W) {op : BoolOp} {pos : Pos} : ∀ {es : List Expr} {m : E}, trBool (te tc) op es = some m → PM G X W (.BoolOp op es pos) (ev (CL G P k) G.tb m) ∧ PW X (.BoolOp op es pos) (tBo G X W (et (CL G P k) G.tb m))
  | [], _, h => by unfold trBool at h; cases h
  | [a], m, h => by
    unfold trBool at h
    have := ih tc a m h X W g
    refine ⟨pe_one this.1, ?_⟩
    cases op with
    | And => exact pw_and1 this.2
    | Or => exact pw_or1 this.2
  | a :: b :: r, m, h => by
    unfold trBool at h
    split at h
    · rename_i x y hx hy
      have h1 := ih tc a x hx X W g
      have h2 := sound_Bool ih g (pos := pos) hy
      cases op with
      | And =>
        cases h
        refine ⟨(pm_and h1.1 h2.1).cong fun sg h => by rw [ev], ⟨fun wh pins s σ H Q I ⟨ρ, sg, hh, S, R, o⟩ => (pw_and h1.2 h2.2).run wh pins s σ H Q I ?_⟩⟩
        have e : et (CL G P k) G.tb (.and x y) sg hh = (et (CL G P k) G.tb x sg hh).bind fun t h => if t then et (CL G P k) G.tb y sg h else .ok false h := by
          have := et_and (m := ev (CL G P k) G.tb x) (n := ev (CL G P k) G.tb y) sg hh
          unfold et
          rw [ev]
          exact this
        rw [e] at o
        refine ⟨ρ, sg, hh, S, R, o.bind.imp fun ρ1 H1 h1 t e1 S1 o1 => ?_⟩
        cases t with
        | true => exact ⟨ρ1, sg, h1, S1, R.ext e1, o1⟩
        | false => exact Out.now S1 o1
      | Or =>
        cases h
        refine ⟨(pm_or h1.1 h2.1).cong fun sg h => by rw [ev], ⟨fun wh pins s σ H Q I ⟨ρ, sg, hh, S, R, o⟩ => (pw_or h1.2 h2.2).run wh pins s σ H Q I ?_⟩⟩
        have e : et (CL G P k) G.tb (.or x y) sg hh = (et (CL G P k) G.tb x sg hh).bind fun t h => if t then .ok true h else et (CL G P k) G.tb y sg h := by
          have := et_or (m := ev (CL G P k) G.tb x) (n := ev (CL G P k) G.tb y) sg hh
          unfold et
          rw [ev]
          exact this
        rw [e] at o
        refine ⟨ρ, sg, hh, S, R, o.bind.imp fun ρ1 H1 h1 t e1 S1 o1 => ?_⟩
        cases t with
        | true => exact Out.now S1 o1
        | false => exact ⟨ρ1, sg, h1, S1, R.ext e1, o1⟩
    · cases h
theorem ite_some {α : Type} {c : Prop} [Decidable c] {a b : Option α} {f : α} (h : (if c then a else b) = some f) : (c ∧ a = some f) ∨ (¬c ∧ b = some f) := by
  by_cases e : c
  · rw [if_pos e] at h; exact .inl ⟨e, h⟩
  · rw [if_neg e] at h; exact .inr ⟨e, h⟩
theorem blt_boot {x : Nm} {n : Nat} {f : Bf} (h : bltOf x n = some f) : bootBuiltins (toS x) = some (bfV f) ∧ ∀ vs, bfA f vs = vs := by
  unfold bltOf at h
  rcases ite_some h with ⟨e, z⟩ | ⟨_, h⟩
  · cases z; subst e; exact ⟨by decide +kernel, fun _ => rfl⟩
  rcases ite_some h with ⟨e, z⟩ | ⟨_, h⟩
  · cases z; subst e; exact ⟨by decide +kernel, fun _ => rfl⟩
  rcases ite_some h with ⟨e, z⟩ | ⟨_, h⟩
  · cases z; subst e; exact ⟨by decide +kernel, fun _ => rfl⟩
  rcases ite_some h with ⟨e, z⟩ | ⟨_, h⟩
  · cases z; subst e; exact ⟨by decide +kernel, fun _ => rfl⟩
  rcases ite_some h with ⟨e, z⟩ | ⟨_, h⟩
  · cases z; subst e; exact ⟨by decide +kernel, fun _ => rfl⟩
  rcases ite_some h with ⟨e, z⟩ | ⟨_, h⟩
  · cases z; subst e; exact ⟨by decide +kernel, fun _ => rfl⟩
  rcases ite_some h with ⟨e, z⟩ | ⟨_, h⟩
  · cases z; subst e; exact ⟨by decide +kernel, fun _ => rfl⟩
  rcases ite_some h with ⟨⟨e, _⟩, z⟩ | ⟨_, h⟩
  · cases z; subst e; exact ⟨by decide +kernel, fun _ => rfl⟩
  rcases ite_some h with ⟨⟨e, _⟩, z⟩ | ⟨_, h⟩
  · cases z; subst e; exact ⟨by decide +kernel, fun _ => rfl⟩
  rcases ite_some h with ⟨e, z⟩ | ⟨_, h⟩
  · cases z; subst e; exact ⟨by decide +kernel, fun _ => rfl⟩
  rcases ite_some h with ⟨⟨e, _⟩, z⟩ | ⟨_, h⟩
  · cases z; subst e; exact ⟨by decide +kernel, fun _ => rfl⟩
  rcases ite_some h with ⟨⟨e, _⟩, z⟩ | ⟨_, h⟩
  · cases z; subst e; exact ⟨by decide +kernel, fun _ => rfl⟩
  rcases ite_some h with ⟨⟨e, _⟩, z⟩ | ⟨_, h⟩
  · cases z; subst e; exact ⟨by decide +kernel, fun _ => rfl⟩
  rcases ite_some h with ⟨⟨e, _⟩, z⟩ | ⟨_, h⟩
  · cases z; subst e; exact ⟨by decide +kernel, fun _ => rfl⟩
  rcases ite_some h with ⟨⟨e, _⟩, z⟩ | ⟨_, h⟩
  · cases z; subst e; exact ⟨by decide +kernel, fun _ => rfl⟩
  rcases ite_some h with ⟨⟨e, _⟩, z⟩ | ⟨_, h⟩
  · cases z; subst e; exact ⟨by decide +kernel, fun _ => rfl⟩
  cases h
theorem ty_boot {x : Nm} {t : String} (h : tyOf x = some t) : bootBuiltins (toS x) = some (.type t) := by
  unfold tyOf at h
  repeat' split at h
  all_goals first
    | (cases h; done)
    | (cases h; rename_i e; subst e; decide +kernel)
theorem isa_boot {x : Nm} (h : isaName x = true) : bootBuiltins (toS x) = some (.builtin "isinstance") := by
  have := of_decide_eq_true h
  subst this
  decide +kernel
theorem sound_C (ih : Sound G P k te) (g : Good G P k tc X W) {x : Str} {es : List Expr} {p pos : Pos} {m : E} (h : trC (te tc) tc x es = some m) : PM G X W (.Call (.Name x p) es [] pos) (ev (CL G P k) G.tb m) := by
  unfold trC at h
  split at h
  · rename_i hc
    simp only [Bool.and_eq_true, Bool.not_eq_true'] at hc
    obtain ⟨⟨hgl, hodd⟩, hs⟩ := hc
    have hg := glo_of (X := X) hgl g.sc
    obtain ⟨o1, o2, o3⟩ := odd_of hodd
    split at h
    · rename_i f hf
      obtain ⟨q1, q2⟩ := g.wd.gfn x f hf
      split at h
      · rename_i l hl
        cases h
        exact (pm_call (g.wd.fns f) (g.room.mono (by omega)) g.takes hg q1 q2 o1 hs (sound_list ih g hs hl)).cong fun sg h => by rw [ev]
      · cases h
    · split at h
      · rename_i c f hf
        obtain ⟨q1, q2, q3⟩ := g.wd.gcl x c f hf
        split at h
        · rename_i l hl
          cases h
          exact (pm_make (g.wd.fns f) g.room g.takes q2 q3 hg q1 o1 hs (sound_list ih g hs hl)).cong fun sg h => by rw [ev]
        · cases h
      · split at h
        · rename_i hnb
          have hm := g.wd.gno x hnb
          split at h
          · rename_i hisa
            have hv := isa_boot hisa
            rw [toS_nm] at hv
            split at h
            · rename_i e tn p2
              split at h
              · rename_i hc2
                simp only [Bool.and_eq_true, Bool.not_eq_true'] at hc2
                obtain ⟨⟨k1, k2⟩, k3⟩ := hc2
                obtain ⟨r1, r2, r3⟩ := odd_of k2
                split at h
                · rename_i t a ht ha
                  cases h
                  have hv2 := ty_boot ht
                  rw [toS_nm] at hv2
                  exact (pm_isa g.calm hg hm hv o3 o1 (glo_of k1 g.sc) (g.wd.gno tn k3) hv2 r3 r1 (by rw [List.all_cons, Bool.and_eq_true] at hs; exact hs.1) (ih tc e a ha X W g).1).cong fun sg h => by
                    rw [ev, evs]
                    congr 2
                · cases h
              · cases h
            · cases h
          · split at h
            · rename_i e hss
              split at h
              · rename_i a ha
                cases h
                unfold ssOf at hss
                split at hss
                · rename_i y p2 e2 q2
                  split at hss
                  · rename_i hc2
                    cases hss
                    simp only [Bool.and_eq_true, decide_eq_true_eq] at hc2
                    obtain ⟨⟨⟨⟨k1, k2⟩, k3⟩, k4⟩, k5⟩ := hc2
                    exact (pm_sset g.calm k1 k2 hg hm (glo_of k3 g.sc) (g.wd.gno _ k4) k5 (ih tc e a ha X W g).1).cong fun sg h => by rw [ev]
                  · cases hss
                · cases hss
              · cases h
            split at h
            · rename_i es2 htz
              split at h
              · rename_i l hl
                cases h
                unfold tzOf at htz
                split at htz
                · rename_i y p2 e2 q2
                  split at htz
                  · rename_i hc2
                    cases htz
                    simp only [Bool.and_eq_true, decide_eq_true_eq] at hc2
                    obtain ⟨⟨⟨⟨k1, k2⟩, k3⟩, k4⟩, k5⟩ := hc2
                    exact (pm_tzip g.calm k1 k2 hg hm (glo_of k3 g.sc) (g.wd.gno _ k4) k5 (sound_list ih g k5 hl)).cong fun sg h => by rw [ev]
                  · cases htz
                · cases htz
              · cases h
            split at h
            · rename_i f hf
              split at h
              · rename_i l hl
                cases h
                obtain ⟨b1, b2⟩ := blt_boot hf
                rw [toS_nm] at b1
                exact (pm_blt g.calm b2 hg hm b1 o3 o1 hs (sound_list ih g hs hl)).cong fun sg h => by rw [ev]
              · cases h
            · cases h
        · cases h
  · cases h

theorem lit_okS {s : Nm} (h : okSB s = true) : okS s := by
  unfold okSB at h
  rw [Bool.and_eq_true] at h
  refine ⟨by rw [← SZ_eq]; exact of_decide_eq_true h.1, fun c hc => ?_⟩
  exact of_decide_eq_true (List.all_eq_true.mp h.2 c hc)
theorem plain_base {o : Expr} {x : Str} {env : Env} (h : plainBase o = true) : attributeBase o x env (eval o env) = eval o env := by
  cases o with
  | Call f es ks p =>
    cases f with
    | Name y q => cases es <;> cases ks <;> first | rfl | cases h
    | _ => rfl
  | _ => rfl
theorem sound_step (ih : Sound G P k te) : Sound G P k (trE1 te) := by
  intro tc e m h X W g
  -- a plain expression: its test is its truth
  have plain : plainTest e = true → PM G X W e (ev (CL G P k) G.tb m) → PM G X W e (ev (CL G P k) G.tb m) ∧ PMT G X W e (et (CL G P k) G.tb m) := fun h1 h2 => ⟨h2, pt_plain h2 (isTrue_not_special h1)⟩
  have hu := g.room.units
  unfold trE1 at h
  cases e with
  | Name x p =>
    dsimp only at h
    refine plain rfl ?_
    split at h
    · rename_i hc
      simp only [Bool.and_eq_true, Bool.not_eq_true'] at hc
      obtain ⟨o1, o2, o3⟩ := odd_of hc.2
      split at h
      · rename_i i hi
        cases h
        exact pm_var (by rw [g.N]; exact ixOf_get hi) (by rw [g.sc]; exact vis_of hc.1) o1 o2 fun sg h => by rw [ev] <;> rfl
      · cases h
    · split at h
      · rename_i hc
        simp only [Bool.and_eq_true, Bool.not_eq_true'] at hc
        obtain ⟨o1, o2, o3⟩ := odd_of hc.2
        split at h
        · rename_i d hd
          cases h
          obtain ⟨v, u, q1, q2, q3⟩ := g.wd.gco x d hd
          exact pm_cst (pe_glob (glo_of hc.1 g.sc) q1 q2 o1) q3 fun sg h => by rw [ev]
        · cases h
      · cases h
  | Constant c kk p =>
    dsimp only at h
    refine plain rfl ?_
    split at h
    · cases h; exact pm_cst pe_int (fun _ _ => rep_int.mpr rfl) fun sg h => by rw [ev]
    · split at h
      · rename_i hs
        cases h
        exact pm_cst pe_str (fun _ _ => rep_str.mpr ⟨by rw [toS_nm], lit_okS hs⟩) fun sg h => by rw [ev]
      · cases h
    · cases h; exact pm_cst pe_non (fun _ _ => rep_non.mpr rfl) fun sg h => by rw [ev]
    · cases h; exact pm_cst pe_bl (fun _ _ => rep_bl.mpr rfl) fun sg h => by rw [ev]
    · cases h
  | Tuple es kk p =>
    dsimp only at h
    refine plain rfl ?_
    split at h
    · rename_i hs
      split at h
      · rename_i l hl
        cases h
        exact (pm_tup (sound_list ih g hs hl)).cong fun sg h => by rw [ev]
      · cases h
    · cases h
  | List es p =>
    dsimp only at h
    refine plain rfl ?_
    split at h
    · rename_i hs
      split at h
      · rename_i l hl
        cases h
        exact (pm_lst (sound_list ih g hs hl)).cong fun sg h => by rw [ev]
      · cases h
    · cases h
  | BinOp a op b p =>
    dsimp only at h
    refine plain rfl ?_
    split at h
    · rename_i x y hx hy
      cases h
      exact (pm_bin (ih tc _ x hx X W g).1 (ih tc _ y hy X W g).1).cong fun sg h => by rw [ev]
    · cases h
  | UnaryOp op a p =>
    dsimp only at h
    split at h
    · rename_i x hx
      cases h
      exact plain rfl ((pm_neg (ih tc _ x hx X W g).1).cong fun sg h => by rw [ev] <;> rfl)
    · rename_i x hx
      cases h
      have i1 := ih tc _ x hx X W g
      refine ⟨(pm_not i1.1).cong fun sg h => by rw [ev], ?_⟩
      have := pt_notM (pos := p) (ma := ev (CL G P k) G.tb x) i1.2
      have e2 : et (CL G P k) G.tb (.nt x) = trOf fun sg h => (ev (CL G P k) G.tb x sg h).bind fun x h => (ofOpt (truth h x) h).bind fun b h => .ok (.bl (!b)) h := by
        funext sg h
        unfold et trOf
        rw [ev]
      rw [e2]
      exact this
    · cases h
  | BoolOp op es p =>
    dsimp only at h
    have := sound_Bool ih g (pos := p) h
    exact ⟨this.1, this.2.pt⟩
  | Compare a ops es p =>
    dsimp only at h
    split at h
    · split at h
      · cases h
      · rename_i hb
        split at h
        · rename_i x y hx hy
          cases h
          have i1 := (ih tc _ x hx X W g).1
          have i2 := (ih tc _ y hy X W g).1
          refine ⟨(pm_cmp hu i1 i2 (by simpa using hb)).cong fun sg h => by rw [ev], ?_⟩
          have := pt_cmpM (pos := p) hu i1 i2 (by simpa using hb)
          have e2 : ∀ o, et (CL G P k) G.tb (.cmp o x y) = trOf fun sg h => (ev (CL G P k) G.tb x sg h).bind fun x h => (ev (CL G P k) G.tb y sg h).bind fun y h => cmpop o x y h := by
            intro o
            funext sg h
            unfold et trOf
            rw [ev]
          rw [e2]
          exact this
        · cases h
    · split at h
      · cases h
      · rename_i hb
        split at h
        · rename_i x y z hx hy hz
          cases h
          have i1 := (ih tc _ x hx X W g).1
          have i2 := (ih tc _ y hy X W g).1
          have i3 := (ih tc _ z hz X W g).1
          refine ⟨(pm_chain hu i1 i2 i3 (by simpa using hb)).cong fun sg h => by rw [ev], ?_⟩
          have := pt_chainM (pos := p) hu i1 i2 i3 (by simpa using hb)
          have e2 : ∀ o o', et (CL G P k) G.tb (.chain o o' x y z) = trOf fun sg h => (ev (CL G P k) G.tb x sg h).bind fun x h => (ev (CL G P k) G.tb y sg h).bind fun y h => (ofOpt (cmpD o x y h) h).bind fun t h => if t then (ev (CL G P k) G.tb z sg h).bind fun z h => cmpop o' y z h else .ok (.bl false) h := by
            intro o o'
            funext sg h
            unfold et trOf
            rw [ev]
          rw [e2]
          exact this
        · cases h
    · cases h
  | Subscript a b p =>
    refine plain rfl ?_
    have go : (match tabOf tc a with
      | some (_, kvs) => match te tc b with
        | some y => some (E.tab kvs y)
        | none => none
      | none => match te tc a, te tc b with
        | some x, some y => some (E.idx x y)
        | _, _ => none) = some m → PlainIx b → PM G X W (.Subscript a b p) (ev (CL G P k) G.tb m) := by
      intro h hb
      split at h
      · rename_i x kvs ht
        split at h
        · rename_i y hy
          cases h
          unfold tabOf at ht
          split at ht
          · split at ht
            · rename_i hc
              simp only [Bool.and_eq_true, Bool.not_eq_true'] at hc
              obtain ⟨o1, o2, o3⟩ := odd_of hc.2
              split at ht
              · rename_i kvs2 hd
                cases ht
                obtain ⟨t, q1, q2⟩ := g.wd.gdc _ _ hd
                exact (pm_tab (pe_glob (v := V.ref t) (glo_of hc.1 g.sc) q1 rfl o1) q2 (ih tc b y hy X W g).1 hb).cong fun sg h => by rw [ev] <;> rfl
              · cases ht
            · cases ht
          · cases ht
        · cases h
      split at h
      · rename_i x y hx hy
        cases h
        exact (pm_idx (by omega) (ih tc _ x hx X W g).1 (ih tc _ y hy X W g).1 hb).cong fun sg h => by rw [ev]
      · cases h
    cases b with
    | Slice lo hi st p2 =>
      dsimp only at h
      cases st with
      | some e => cases h
      | none =>
        dsimp only at h
        split at h
        · rename_i x l hh hx hl hh2
          cases h
          exact (pm_sli (ih tc _ x hx X W g).1 (sound_O ih g hl) (sound_O ih g hh2)).cong fun sg h => by rw [ev]
        · cases h
    | _ => exact go h fun _ _ => rfl
  | Attribute a x p =>
    dsimp only at h
    refine plain rfl ?_
    split at h
    · rename_i hb
      split at h
      · rename_i y hy
        cases h
        exact (pm_fld (toS_nm _).symm (ih tc _ y hy X W g).1 (plain_base hb)).cong fun sg h => by rw [ev]
      · cases h
    · cases h
  | Call f es ks pos =>
    dsimp only at h
    refine plain rfl ?_
    split at h
    · exact sound_C ih g h
    · split at h
      · rename_i hc
        simp only [Bool.and_eq_true, decide_eq_true_eq] at hc
        obtain ⟨⟨⟨c1, c2⟩, c3⟩, c4⟩ := hc
        split at h
        · rename_i y l hy hl
          cases h
          exact (pm_mth (toS_nm _).symm g.wd.fns (g.room.mono (by omega)) g.takes (by omega) (plain_base c1) c4 c3 c2 (ih tc _ y hy X W g).1 (sound_list ih g c2 hl)).cong fun sg h => by rw [ev]
        · cases h
      · cases h
    · cases h
  | Dict keys values p =>
    dsimp only at h
    refine plain rfl ?_
    split at h
    · rename_i hc
      simp only [Bool.and_eq_true, decide_eq_true_eq] at hc
      obtain ⟨⟨c1, c2⟩, c3⟩ := hc
      split at h
      · rename_i l hl
        cases h
        cases keys with
        | nil =>
          cases values with
          | nil =>
            unfold trP at hl
            cases hl
            exact pm_dct0.cong fun sg h => by rw [ev, evs]; rfl
          | cons v vs => cases c2
        | cons q ks =>
          obtain ⟨ms, h1, h2⟩ := sound_P ih g hl
          refine (pm_dct h1 c1 c2 (by simp) c3).cong fun sg h => ?_
          rw [ev]
          unfold dctM
          rw [h2]
      · cases h
    · cases h
  | ListComp elt gs scope p =>
    dsimp only at h
    refine plain rfl ?_
    split at h
    · rename_i tgE iter ifs as
      split at h
      · rename_i hc
        rw [Bool.and_eq_true] at hc
        have e0 : as = 0 := by simpa using hc.1
        subst e0
        split at h
        · rename_i t i c x ht hi hcs hx
          split at h
          · rename_i hall
            cases h
            obtain ⟨w1, w2⟩ := sound_I ih g (tgE := tgE) hi
            have ok : BlkOk X.N X.env.scope scope (ownOf tc.N scope.names) := by rw [g.N, g.sc]; exact blkOk_by hc.2
            refine (pm_comp g.calm g.nd w1 ok (mt := tg (CL G P k) G.tb t) (mc := evc (CL G P k) G.tb c) (me := ev (CL G P k) G.tb x) (fun s H C cl fp => sound_T ih (blk_good g) ht fun j hj => ?_) (fun s H C cl fp => ?_) (fun s H C cl fp => (ih _ _ x hx _ F0 (blk_good g)).1) w2).cong fun sg h => ?_
            · exact of_decide_eq_true (List.all_eq_true.mp hall j hj)
            · unfold trCs at hcs
              split at hcs
              · cases hcs
                have : evc (CL G P k) G.tb none = fun _ h => .ok true h := by funext sg h; rw [evc]
                rw [this]
                exact pts_nilM
              · split at hcs
                · rename_i y hy
                  cases hcs
                  have : evc (CL G P k) G.tb (some y) = et (CL G P k) G.tb y := by funext sg h; rw [evc]; rfl
                  rw [this]
                  exact pts_one (ih _ _ y hy _ F0 (blk_good g)).2
                · cases hcs
              · cases hcs
            · rw [ev]
              unfold compM turnM
              congr 1
          · cases h
        · cases h
      · cases h
    · cases h
  | _ => cases h
theorem trE_sound : ∀ n, Sound G P k (trE n)
  | 0 => fun tc e m h => by cases h
  | n + 1 => sound_step (trE_sound n)
end
end Z

/-! ZK: statements translated; functions, by the depth of calls. -/
namespace Z
open PySem PySem.Spec PyProof.Rows L2

def notComp : Expr → Bool
  | .ListComp _ _ _ _ => false
  | .SetComp _ _ _ _ => false
  | .DictComp _ _ _ _ _ => false
  | _ => true
def notTup : Expr → Bool
  | .Tuple _ _ _ => false
  | _ => true
def isFn (sc : Scope) : Bool := match sc.kind with
  | .function => true
  | _ => false
/-- name = [..]: the stores are swapped -/
def swB (tc : Tc) (y : Str) (py pos : Pos) (scope : Scope) : Bool := isFn tc.sc && lclB tc.sc y && (py.line == pos.line) && !(scope.names.any fun (n, k) => n == y && (k == .local || k == .cell))
def trAsg (te : Tc → Expr → Option E) (tc : Tc) (tg e : Expr) : Option S :=
  match tg with
  | .Name y py => match e with
    | .ListComp elt gs scope pos => if swB tc y py pos scope = true then match ixOf tc.N y, te tc (.ListComp elt gs scope pos) with
        | some i, some x => match x with
          | .comp vs t it c z => some (.asg (.nm i) (.comp vs t it c z))
          | _ => none
        | _, _ => none
      else none
    | e => if notComp e = true then match trT0 (te tc) tc (.Name y py), te tc e with
        | some t, some x => some (.asg t x)
        | _, _ => none
      else none
  | .Attribute o f _ => match te tc o, te tc e with
    | some y, some x => some (.asg (.fld y f.cps.toList) x)
    | _, _ => none
  | .Subscript a b p => match trT0 (te tc) tc (.Subscript a b p), te tc e with
    | some t, some x => some (.asg t x)
    | _, _ => none
  | .Tuple es k p => if notTup e = true then match trT (te tc) tc (.Tuple es k p), te tc e with
      | some t, some x => some (.asg t x)
      | _, _ => none
    else none
  | _ => none
def trS1 (te : Tc → Expr → Option E) (tb : Stmt → Option S) (tc : Tc) (st : Stmt) : Option S :=
  match st with
  | .Assign ts e _ => match ts with
    | [tg] => trAsg te tc tg e
    | _ => none
  | .AugAssign t op e _ => match t with
    | .Name x _ => if (locB tc.sc x && (tc.fn x || lclB tc.sc x)) = true then match ixOf tc.N x, te tc e with
        | some i, some y => some (.aug i op y)
        | _, _ => none
      else none
    | .Attribute o x _ => match te tc o, te tc e with
      | some a, some y => some (.augf a x.cps.toList op y)
      | _, _ => none
    | .Subscript o i _ => if noSl i = true then match te tc o, te tc i, te tc e with
        | some a, some j, some y => some (.augi a j op y)
        | _, _, _ => none
      else none
    | _ => none
  | .Expr e _ => match e with
    | .Constant c _ _ => match c with
      | .str _ => some .pass
      | _ => none
    | e => if notComp e = true then match te tc e with
        | some x => some (.ex x)
        | none => none
      else none
  | .Return e _ => match e with
    | none => some .retn
    | some e => match te tc e with
      | some x => some (.ret x)
      | none => none
  | .If c a b _ => match te tc c, mapO tb a, mapO tb b with
    | some x, some p, some q => some (.ite x p q)
    | _, _, _ => none
  | .While c b o _ => match o with
    | [] => match te tc c, mapO tb b with
      | some x, some p => some (.whl x p)
      | _, _ => none
    | _ => none
  | .For t i b o _ => match o with
    | [] => match trT (te tc) tc t, trI (te tc) tc i, mapO tb b with
      | some x, some y, some p => some (.each x y p)
      | _, _, _ => none
    | _ => none
  | .Pass _ => some .pass
  | .Break _ => some .brk
  | .Continue _ => some .cont
  | .Delete ts _ => match ts with
    | [.Subscript a b _] => match te tc a, te tc b with
      | some x, some y => some (.del x y)
      | _, _ => none
    | _ => none
  | .Raise _ _ _ => some .stuck
  | _ => none
def trS (te : Tc → Expr → Option E) (tc : Tc) : Nat → Stmt → Option S
  | 0 => fun _ => none
  | n + 1 => trS1 te (trS te tc n) tc

section
variable {G : Gt} {P : Fid → Option Fn} {k : Nat} {te : Tc → Expr → Option E} {tc : Tc} {X : Cx} {W : WX}
theorem PSM.cong {st : Stmt} {m m' : Sg → Hh → Res (Fl × Sg)} (h : PSM G X W st m) (hm : ∀ sg h, m' sg h = m sg h) : PSM G X W st m' := by
  have : m' = m := by funext sg h; exact hm sg h
  rw [this]; exact h
theorem sw_false {e : Expr} {t : Option Expr} {l : Nat} {env : Env} (h : notComp e = true) : swapsWith e t l env = pure false := by
  cases e <;> first | rfl | cases h
def SoundS (G : Gt) (P : Fid → Option Fn) (k : Nat) (tc : Tc) (tb : Stmt → Option S) : Prop := ∀ (st : Stmt) (m : S), tb st = some m → ∀ (X : Cx) (W : WX), Good G P k tc X W → PassesOwn (model X.prog X.w) X.A X.env X.xe → PSM G X W st (xs (CL G P k) G.tb m)
theorem sound_block {tb : Stmt → Option S} (ih : SoundS G P k tc tb) (g : Good G P k tc X W) (hp : PassesOwn (model X.prog X.w) X.A X.env X.xe) : ∀ {sts : List Stmt} {l : List S}, mapO tb sts = some l → PSsM G X W sts (xss (CL G P k) G.tb l)
  | [], l, h => by
    unfold mapO at h
    cases h
    have : xss (CL G P k) G.tb [] = fun sg h => .ok (.nx, sg) h := by funext sg h; rw [xss]
    rw [this]
    exact pssm_nil
  | st :: sts, l, h => by
    unfold mapO at h
    split at h
    · rename_i m hm
      split at h
      · rename_i ms hms
        cases h
        have : xss (CL G P k) G.tb (m :: ms) = fun sg h => (xs (CL G P k) G.tb m sg h).bind fun p h => match p.1 with | .nx => xss (CL G P k) G.tb ms p.2 h | f => .ok (f, p.2) h := by funext sg h; rw [xss] <;> rfl
        rw [this]
        exact pssm_cons (ih st m hm X W g hp) (sound_block ih g hp hms)
      · cases h
    · cases h
theorem sound_Asg {n : Nat} (g : Good G P k tc X W) {tgE e : Expr} {m : S} {pos : Pos} (h : trAsg (trE (n + 1)) tc tgE e = some m) : PSM G X W (.Assign [tgE] e pos) (xs (CL G P k) G.tb m) := by
  have hte : Sound G P k (trE (n + 1)) := trE_sound (n + 1)
  unfold trAsg at h
  cases tgE with
  | Name y py =>
    dsimp only at h
    have plain : notComp e = true → (match trT0 (trE (n + 1) tc) tc (.Name y py), trE (n + 1) tc e with
        | some t, some x => some (S.asg t x)
        | _, _ => none) = some m → PSM G X W (.Assign [.Name y py] e pos) (xs (CL G P k) G.tb m) := by
      intro hc h
      split at h
      · rename_i t x ht hx
        cases h
        exact (psm_asg (hte tc e x hx X W g).1 (sound_T0 hte g ht (ns := tnm0 t) fun i hi => hi) (by show swapsWith e (some (.Name y py)) pos.line X.env = pure false; exact sw_false hc) rfl rfl).cong fun sg h => by rw [xs]
      · cases h
    cases e with
    | ListComp elt gs scope cpos =>
      dsimp only at h
      split at h
      · rename_i hsw
        split at h
        · rename_i i x hi hx
          split at h
          · rename_i vs t it c z
            cases h
            unfold swB at hsw
            simp only [Bool.and_eq_true, Bool.not_eq_true'] at hsw
            obtain ⟨⟨⟨s1, s2⟩, s3⟩, s4⟩ := hsw
            have k1 : X.env.scope.kind = .function := by
              rw [g.sc]
              unfold isFn at s1
              split at s1
              · assumption
              · cases s1
            have k2 : X.env.scope.names.lookup y = some .local := by
              rw [g.sc]
              unfold lclB at s2
              split at s2
              · assumption
              · cases s2
            have ih : Sound G P k (trE n) := trE_sound n
            have hx : trE1 (trE n) tc (.ListComp elt gs scope cpos) = some (.comp vs t it c z) := hx
            unfold trE1 at hx
            dsimp only at hx
            split at hx
            · rename_i tgE2 iter ifs as hx0
              split at hx
              · rename_i hc
                rw [Bool.and_eq_true] at hc
                have e0 : as = 0 := by simpa using hc.1
                subst e0
                split at hx
                · rename_i t' i' c' x' ht' hi' hcs' hx'
                  split at hx
                  · rename_i hall
                    cases hx
                    obtain ⟨w1, w2⟩ := sound_I ih g (tgE := tgE2) hi'
                    have ok : BlkOk X.N X.env.scope scope (ownOf tc.N scope.names) := by rw [g.N, g.sc]; exact blkOk_by hc.2
                    refine (psm_setLc g.calm g.nd (by rw [g.N]; exact ixOf_get hi) k2 (sw_true k1 k2 s3 s4) w1 ok (mt := tg (CL G P k) G.tb t) (mc := evc (CL G P k) G.tb c) (me := ev (CL G P k) G.tb z) (fun s H C cl fp => sound_T ih (blk_good g) ht' fun j hj => ?_) (fun s H C cl fp => ?_) (fun s H C cl fp => (ih _ _ z hx' _ F0 (blk_good g)).1) w2).cong fun sg h => ?_
                    · exact of_decide_eq_true (List.all_eq_true.mp hall j hj)
                    · unfold trCs at hcs'
                      split at hcs'
                      · cases hcs'
                        have : evc (CL G P k) G.tb none = fun _ h => .ok true h := by funext sg h; rw [evc]
                        rw [this]
                        exact pts_nilM
                      · split at hcs'
                        · rename_i y hy
                          cases hcs'
                          have : evc (CL G P k) G.tb (some y) = et (CL G P k) G.tb y := by funext sg h; rw [evc]; rfl
                          rw [this]
                          exact pts_one (ih _ _ y hy _ F0 (blk_good g)).2
                        · cases hcs'
                      · cases hcs'
                    · rw [xs]
                      have e1 : ev (CL G P k) G.tb (.comp ((ownOf tc.N scope.names).map (·.2)) t it c z) sg h = compM (ei (CL G P k) G.tb it) (tg (CL G P k) G.tb t) (evc (CL G P k) G.tb c) (ev (CL G P k) G.tb z) ((ownOf tc.N scope.names).map (·.2)) sg h := by
                        rw [ev]
                        unfold compM turnM
                        congr 1
                      rw [e1]
                      congr 1
                  · cases hx
                · cases hx
              · cases hx
            · cases hx
          · cases h
        · cases h
      · cases h
    | SetComp _ _ _ _ => cases h
    | DictComp _ _ _ _ _ => cases h
    | _ => exact plain rfl h
  | Attribute o f p =>
    dsimp only at h
    split at h
    · rename_i y x hy hx
      cases h
      refine (psm_fld (toS_nm f).symm (hte tc e x hx X W g).1 (hte tc o y hy X W g).1 ?_).cong fun sg h => ?_
      · cases e <;> rfl
      · rw [xs]
        congr 1
    · cases h
  | Subscript a b p =>
    dsimp only at h
    split at h
    · rename_i t x ht hx
      cases h
      refine (psm_asg (hte tc e x hx X W g).1 (sound_T0 hte g ht (ns := tnm0 t) fun i hi => hi) ?_ rfl rfl).cong fun sg h => by rw [xs]
      cases e <;> rfl
    · cases h
  | Tuple es kk p =>
    dsimp only at h
    split at h
    · rename_i hn
      split at h
      · rename_i t x ht hx
        cases h
        refine (psm_asg (hte tc e x hx X W g).1 (sound_T hte g ht (ns := tnm t) fun i hi => hi) ?_ ?_ rfl).cong fun sg h => by rw [xs]
        · cases e <;> rfl
        · cases e <;> first | rfl | cases hn
      · cases h
    · cases h
  | _ => cases h

theorem soundS_step {n : Nat} {tb : Stmt → Option S} (ih : SoundS G P k tc tb) : SoundS G P k tc (trS1 (trE (n + 1)) tb tc) := by
  intro st m h X W g hp
  have hte : Sound G P k (trE (n + 1)) := trE_sound (n + 1)
  unfold trS1 at h
  cases st with
  | Assign ts e p =>
    dsimp only at h
    split at h
    · exact sound_Asg g h
    · cases h
  | AugAssign t op e p =>
    cases t with
    | Name x px =>
      dsimp only at h
      split at h
      · rename_i hc
        rw [Bool.and_eq_true, Bool.or_eq_true] at hc
        split at h
        · rename_i i y hi hy
          cases h
          refine psm_aug g.nd (by rw [g.N]; exact ixOf_get hi) (by rw [g.sc]; exact loc_of hc.1) ?_ (hte tc e y hy X W g).1 fun sg h => by rw [xs] <;> rfl
          rcases hc.2 with z | z
          · exact .inl (by rw [g.fn]; exact z)
          · refine .inr ?_
            rw [g.sc]
            unfold lclB at z
            split at z
            · assumption
            · cases z
        · cases h
      · cases h
    | Attribute o x px =>
      dsimp only at h
      split at h
      · rename_i a y ha hy
        cases h
        exact (psm_augf (toS_nm x).symm (hte tc o a ha X W g).1 (hte tc e y hy X W g).1).cong fun sg h => by rw [xs]
      · cases h
    | Subscript o i px =>
      dsimp only at h
      split at h
      · rename_i hn
        split at h
        · rename_i a j y ha hj hy
          cases h
          have hu := g.room.units
          refine (psm_augi (by omega) (hte tc o a ha X W g).1 (hte tc i j hj X W g).1 (hte tc e y hy X W g).1 ?_).cong fun sg h => by rw [xs]
          cases i <;> first | (intro _ _ _; rfl) | cases hn
        · cases h
      · cases h
    | _ => cases h
  | Expr e p =>
    have plain : (if notComp e = true then match trE (n + 1) tc e with
        | some x => some (S.ex x)
        | none => none
      else none) = some m → PSM G X W (.Expr e p) (xs (CL G P k) G.tb m) := by
      intro h
      split at h
      · rename_i hc
        split at h
        · rename_i x hx
          cases h
          exact (psm_ex (hte tc e x hx X W g).1 (sw_false hc)).cong fun sg h => by rw [xs]
        · cases h
      · cases h
    cases e with
    | Constant c kk pc =>
      dsimp only at h
      split at h
      · cases h
        exact psm_doc.cong fun sg h => by rw [xs]
      · cases h
    | _ => exact plain h
  | Return e p =>
    cases e with
    | none => cases h; exact psm_retn.cong fun sg h => by rw [xs]
    | some e =>
      dsimp only at h
      split at h
      · rename_i x hx
        cases h
        exact (psm_ret (hte tc e x hx X W g).1).cong fun sg h => by rw [xs]
      · cases h
  | If c a b p =>
    dsimp only at h
    split at h
    · rename_i x y z hx hy hz
      cases h
      exact (psm_if (hte tc c x hx X W g).2 (sound_block ih g hp hy) (sound_block ih g hp hz)).cong fun sg h => by rw [xs]
    · cases h
  | While c b o p =>
    dsimp only at h
    split at h
    · split at h
      · rename_i x y hx hy
        cases h
        exact (psm_whl hp (hte tc c x hx X W g).2 (sound_block ih g hp hy)).cong fun sg h => by rw [xs]
      · cases h
    · cases h
  | For t i b o p =>
    dsimp only at h
    split at h
    · split at h
      · rename_i x y z hx hy hz
        cases h
        obtain ⟨w1, w2⟩ := sound_I hte g (tgE := t) hy
        refine (psm_each hp g.calm w1 (sound_T hte g hx (ns := tnm x) fun i hi => hi) (sound_block ih g hp hz) w2).cong fun sg h => ?_
        rw [xs] <;> congr 1
      · cases h
    · cases h
  | Pass p => cases h; exact psm_pass.cong fun sg h => by rw [xs]
  | Break p => cases h; exact psm_brk.cong fun sg h => by rw [xs]
  | Continue p => cases h; exact psm_cont.cong fun sg h => by rw [xs]
  | Delete ts p =>
    dsimp only at h
    split at h
    · split at h
      · rename_i x y hx hy
        cases h
        exact (psm_del (hte tc _ x hx X W g).1 (hte tc _ y hy X W g).1).cong fun sg h => by rw [xs]
      · cases h
    · cases h
  | Raise a b p => cases h; exact psm_stuck.cong fun sg h => by rw [xs]
  | _ => cases h
theorem trS_sound {n : Nat} : ∀ j, SoundS G P k tc (trS (trE (n + 1)) tc j)
  | 0 => fun st m h => by cases h
  | j + 1 => soundS_step (trS_sound j)
end

/-! ### functions -/
/-- what stands of a def: its object, its text read, its defaults -/
structure FDat (G : Gt) (K : PySem.W.Frag) (f : Fid) (F : Fn) (tc : Tc) (N : List Str) (x qual : Str) (params : Arguments) (body : List Stmt) (scope : Scope) (dvs : List V) (fd : FuncData) (ps : List Str) : Prop where
  fun_ : FunD K x qual params body scope dvs [] (G.fad f) fd
  sc : FnScope N ps scope
  tcN : tc.N = N
  tcs : tc.sc = scope
  tcf : tc.fn = fun _ => true
  tr : ∃ n j, mapO (trS (trE (n + 1)) tc j) body = some F.body
  np : ps.length = F.np
  ns : N.length = F.ns
  dl : F.dfl.length ≤ F.np
  dfl : ∀ ρ H, Reps K ρ H F.dfl dvs
  bind : ∀ m, m ≤ F.dfl.length → ∃ ds, Vals (dvs.drop (dvs.length - m)) ds ∧ Binds K fd ps ds
section
variable {G : Gt} {Pf : Fid → Option Fn} {P : Program} {w : World} {K : PySem.W.Frag} {mg : Str → Option Value} {base : Heap}
/-- FnFact over what does not turn with the context, of a def that stands -/
def FnG (G : Gt) (Pf : Fid → Option Fn) (P : Program) (w : World) (K : PySem.W.Frag) (mg : Str → Option Value) (base : Heap) (k : Nat) (f : Fid) (F : Fn) (fd : FuncData) (ps : List Str) : Prop :=
  FnOk P w K mg base (L2.CX P w) (2 * k) (G.fad f) fd ps (spF K G F.np (runK Pf G.tb k F)) ∧ ps.length = F.np ∧ F.dfl.length ≤ F.np ∧
    ∀ m, m ≤ F.dfl.length → ∃ dvs ds, (∀ ρ H, Reps K ρ H (F.dfl.drop (F.dfl.length - m)) dvs) ∧ Vals dvs ds ∧ Binds K fd ps ds
def FnF (G : Gt) (Pf : Fid → Option Fn) (P : Program) (w : World) (K : PySem.W.Frag) (mg : Str → Option Value) (base : Heap) (k : Nat) (f : Fid) (F : Fn) : Prop :=
  ∃ fd ps, FnOk P w K mg base (L2.CX P w) (2 * k) (G.fad f) fd ps (spF K G F.np (runK Pf G.tb k F)) ∧ ps.length = F.np ∧ F.dfl.length ≤ F.np ∧
    ∀ m, m ≤ F.dfl.length → ∃ dvs ds, (∀ ρ H, Reps K ρ H (F.dfl.drop (F.dfl.length - m)) dvs) ∧ Vals dvs ds ∧ Binds K fd ps ds
theorem start_rep {ρ : List Addr} {H : Hp} {ds : List D} {vs : List V} {N : List Str} {n : Nat} (r : Reps K ρ H ds vs) (hn : N.length = n) (hl : vs.length ≤ n) : RepS K ρ H (ds.map some ++ List.replicate (n - ds.length) none) (L2.start N vs) := by
  unfold L2.start
  have ll := r.length
  refine ⟨by simp; omega, fun i d e => ?_⟩
  by_cases hi : i < ds.length
  · rw [List.getElem?_append_left (by simpa using hi)] at e
    rw [List.getElem?_map] at e
    cases q : ds[i]? with
    | none => rw [q] at e; cases e
    | some d' =>
      rw [q] at e
      cases e
      obtain ⟨v, h1, h2⟩ := r.get q
      refine ⟨v, ?_, h2⟩
      rw [List.getElem?_append_left (by simp; omega), List.getElem?_map, h1] <;> rfl
  · rw [List.getElem?_append_right (by simp; omega)] at e
    rw [List.getElem?_replicate] at e
    split at e <;> cases e
theorem fn_step {k : Nat} {f : Fid} {F : Fn} {tc : Tc} {N : List Str} {x qual : Str} {params : Arguments} {body : List Stmt} {scope : Scope} {dvs : List V} {fd : FuncData} {ps : List Str}
    (D : FDat G K f F tc N x qual params body scope dvs fd ps) (ih : ∀ f F, Pf f = some F → FnF G Pf P w K mg base k f F)
    (gfn : ∀ x f, tc.gf x = some f → mg x = some (.ref (G.fad f)) ∧ PySem.W.keepIn K (.ref (G.fad f)) = true) (gcl : ∀ x c f, tc.gc x = some (c, f) → mg x = some (.ref (G.cad c)) ∧ Mk K (G.cad c) (G.fad f) ∧ ClsOk K G c)
    (gno : ∀ x, tc.nb x = true → mg x = none) (gdc : ∀ x kvs, tc.gd x = some kvs → ∃ t, mg x = some (.ref t) ∧ ∀ s d, fget kvs s = some d → ∃ v, KDct K w t (toS s) v ∧ ∀ ρ H, Rep K ρ H d v) (gco : ∀ x d, tc.gl x = some d → ∃ v u, mg x = some u ∧ RelV v u ∧ ∀ ρ H, Rep K ρ H d v) : FnG G Pf P w K mg base (k + 1) f F fd ps := by
  obtain ⟨n, j, htr⟩ := D.tr
  refine ⟨?_, D.np, D.dl, fun m hm => ?_⟩
  · show FnOk P w K mg base (L2.CX P w) ((2 * k + 1) + 1) (G.fad f) fd ps _
    refine D.fun_.ok D.sc (fun vs H Q E h => by rw [D.np]; exact h.1) fun cdv A outer s H vs Q E hr h => ?_
    obtain ⟨hl, ρ, h, ds, S, r, o⟩ := h
    generalize hX : cxOf (L2.CX P w) P w K mg base N qual scope (G.fad f) cdv A outer s H E = X
    have tk : Takes X (fun c d _ H => E c d H) := by
      subst hX
      exact takes_of rfl rfl rfl rfl
    have ps_ : PassesOwn (model X.prog X.w) X.A X.env X.xe := by
      subst hX
      exact passes_of (X := cxOf (L2.CX P w) P w K mg base N qual scope (G.fad f) cdv A outer s H E) rfl
    have g : Good G Pf k tc X (fun c d _ H => E c d H) := by
      subst hX
      exact ⟨D.tcN.symm, D.sc.nd, D.tcs.symm, D.tcf.symm, rfl, hr, tk, ⟨ih, gfn, gcl, gno, gdc, gco⟩⟩
    have hb := sound_block (trS_sound (n := n) j) g ps_ htr
    refine ⟨_, hb, ρ, ds.map some ++ List.replicate (F.ns - ds.length) none, h, by subst hX; exact S, ?_, ?_⟩
    · subst hX
      have hpl : ps.length ≤ N.length := by have := congrArg List.length D.sc.pre; rw [List.length_take] at this; omega
      exact start_rep r D.ns (by rw [← D.ns, hl, ← D.np]; exact hpl)
    · have e : runK Pf G.tb (k + 1) F ds h = runF (CL G Pf k) G.tb F ds h := rfl
      rw [e] at o
      unfold runF at o
      have hK : X.K = K := by subst hX; rfl
      rw [hK]
      cases q : xss (CL G Pf k) G.tb F.body (ds.map some ++ List.replicate (F.ns - ds.length) none) h with
      | bad => rw [q] at o; exact o
      | exc c fs h1 => rw [q] at o; exact False.elim o
      | ok p h1 =>
        obtain ⟨fl, sg⟩ := p
        rw [q] at o
        cases fl with
        | nx =>
          intro ρ1 H1 e1 S1 σ1 R1
          exact o ρ1 H1 e1 S1 .non (rep_non.mpr rfl)
        | ret d =>
          intro ρ1 H1 e1 S1 σ1 R1 v rv
          rw [hK] at rv
          exact o ρ1 H1 e1 S1 v rv
        | exc c fs =>
          intro ρ1 H1 e1 S1 σ1 R1 d x
          rw [hK] at x
          exact o ρ1 H1 d e1 S1 x
        | brk => exact False.elim o
        | ct => exact False.elim o
  · obtain ⟨ds, h1, h2⟩ := D.bind m hm
    have ll := (D.dfl [] (fun _ => none)).length
    refine ⟨_, ds, fun ρ H => (D.dfl ρ H).drop _, by rw [ll]; exact h1, h2⟩
theorem fn_zero {f : Fid} {F : Fn} {tc : Tc} {N : List Str} {x qual : Str} {params : Arguments} {body : List Stmt} {scope : Scope} {dvs : List V} {fd : FuncData} {ps : List Str}
    (D : FDat G K f F tc N x qual params body scope dvs fd ps) : FnG G Pf P w K mg base 0 f F fd ps := by
  refine ⟨⟨fun vs H Q E h => by rw [D.np]; exact h.1, fun A outer s H args us vs Q E hr he hb hv hs => ?_⟩, D.np, D.dl, fun m hm => ?_⟩
  · obtain ⟨_, _, _, _, _, _, o⟩ := hs
    exact False.elim o
  · obtain ⟨ds, h1, h2⟩ := D.bind m hm
    have ll := (D.dfl [] (fun _ => none)).length
    refine ⟨_, ds, fun ρ H => (D.dfl ρ H).drop _, by rw [ll]; exact h1, h2⟩
end
end Z

/-! ZL: a program as a table; the head's facts make every def keep what the small language says; the law's end. -/
namespace Z
open PySem PySem.Spec PyProof.Rows L2

structure PDef where
  id : Fid
  F : Fn
  st : Stmt
  N : List Str
  ps : List Str
  dfl : List He.Dv := []
def atF (f : Fid) : Str × Option Str := if f.1 = [] then (toS f.2, none) else (toS f.1, some (toS f.2))
def PDef.qual (p : PDef) : Str := if p.id.1 = [] then toS p.id.2 else toS (p.id.1 ++ [46] ++ p.id.2)
def PDef.d (p : PDef) : He.DefD := ⟨atF p.id, toS p.id.2, p.qual, defArgs p.st, defBody p.st, defScope p.st, p.dfl, []⟩
/-- the defs; the classes (name, attributes, methods); the built-in names that stand free -/
structure Prg where
  defs : List PDef
  cls : List (Nm × List Nm × List Nm)
  free : List Nm
  cons : List (Nm × D) := []
  dcs : List (Nm × List (Nm × D)) := []
def Prg.P (p : Prg) (f : Fid) : Option Fn := (p.defs.find? fun d => decide (d.id = f)).map (·.F)
def clsOf (l : List (Nm × List Nm × List Nm)) (c : Nm) : Option (List Nm × List Nm) := match l with
  | [] => none
  | q :: r => if q.1 = c then some q.2 else clsOf r c
def Prg.tb (p : Prg) : Tb where
  mt := fun c m => match clsOf p.cls c with
    | some (_, ms) => if m ∈ ms then some (c, m) else none
    | none => none
  at_ := fun c f => match clsOf p.cls c with
    | some (fs, _) => decide (f ∈ fs)
    | none => false
def dcOf (l : List (Nm × List (Nm × D))) (c : Nm) : Option (List (Nm × D)) := match l with
  | [] => none
  | q :: r => if q.1 = c then some q.2 else dcOf r c
def ini : Nm := [95, 95, 105, 110, 105, 116, 95, 95]
def Prg.tc (p : Prg) (N : List Str) (sc : Scope) : Tc where
  N := N
  sc := sc
  fn := fun _ => true
  gf := fun x => if (p.defs.any fun d => decide (d.id = ([], x.cps.toList))) = true then some ([], x.cps.toList) else none
  gc := fun x => match clsOf p.cls x.cps.toList with
    | some _ => some (x.cps.toList, (x.cps.toList, ini))
    | none => none
  gl := fun x => fget p.cons x.cps.toList
  gd := fun x => dcOf p.dcs x.cps.toList
  nb := fun x => decide (x.cps.toList ∈ p.free)
def clsFa (q : Nm × List Nm × List Nm) : List He.Fa := [.glo (toS q.1), .cls (toS q.1), .mkr (toS q.1)] ++ q.2.1.map (fun f => He.Fa.noat (toS q.1) (toS f)) ++ q.2.2.map (fun m => He.Fa.meth (toS q.1) (toS m))
def Prg.fa (p : Prg) : List He.Fa := (p.defs.filterMap fun d => if d.id.1 = [] then some (He.Fa.glo (toS d.id.2)) else none) ++ p.cls.flatMap clsFa ++ p.free.map fun x => He.Fa.free (toS x)
def Prg.fn (p : Prg) : List He.DefD := p.defs.map PDef.d
def Prg.G (p : Prg) (K : PySem.W.Frag) : Gt := ⟨fun c => He.ga K (toS c), fun f => He.fAd K (atF f), p.tb⟩
/-! ### values of the module's top -/
section
variable (K : PySem.W.Frag)
def all2 {α β : Type} (f : α → β → Bool) : List α → List β → Bool
  | [], [] => true
  | a :: l, b :: m => f a b && all2 f l m
  | _, _ => false
/-- u, as the head finds it, is d -/
def dvB : Nat → D → Value → Bool
  | _, .non, .none => true
  | _, .bl b, .bool c => b == c
  | _, .int i, .int j _ => decide (i = j)
  | _, .str s, .str t _ => decide (s = t.cps.toList) && okSB s
  | n + 1, .tup l, .ref a => match K.lookup a with
    | some ⟨.type c, _, .seq its _, _⟩ => decide (c = "tuple") && (decide (its.size ≤ sizeLine) && all2 (dvB n) l its.toList)
    | _ => false
  | n + 1, .rol l, .ref a => match K.lookup a with
    | some ⟨.type c, none, .seq its _, _⟩ => decide (c = "list") && (decide (its.size ≤ sizeLine) && all2 (dvB n) l its.toList)
    | _ => false
  | _, _, _ => false
theorem all2_ok {n : Nat} (ih : ∀ d u, dvB K n d u = true → ∃ v, RelV v u ∧ ∀ ρ H, Rep K ρ H d v) : ∀ (l : List D) (us : List Value), all2 (dvB K n) l us = true → ∃ vs, Vals vs us ∧ ∀ ρ H, Reps K ρ H l vs
  | [], [], _ => ⟨[], .nil, fun _ _ => Reps.nil⟩
  | [], _ :: _, h => by cases h
  | _ :: _, [], h => by cases h
  | d :: l, u :: us, h => by
    have h : (dvB K n d u && all2 (dvB K n) l us) = true := h
    rw [Bool.and_eq_true] at h
    obtain ⟨v, h1, h2⟩ := ih d u h.1
    obtain ⟨vs, h3, h4⟩ := all2_ok ih l us h.2
    exact ⟨v :: vs, .cons h1 h3, fun ρ H => Reps.cons (h2 ρ H) (h4 ρ H)⟩
theorem dvB_ok : ∀ (n : Nat) (d : D) (u : Value), dvB K n d u = true → ∃ v, RelV v u ∧ ∀ ρ H, Rep K ρ H d v := by
  intro n
  induction n with
  | zero =>
    intro d u h
    unfold dvB at h
    split at h
    · exact ⟨.non, rfl, fun _ _ => rep_non.mpr rfl⟩
    · rw [beq_iff_eq] at h
      subst h
      exact ⟨.bl _, rfl, fun _ _ => rep_bl.mpr rfl⟩
    · have h := of_decide_eq_true h
      subst h
      exact ⟨.int _, ⟨_, rfl⟩, fun _ _ => rep_int.mpr rfl⟩
    · rename_i z t k
      rw [Bool.and_eq_true] at h
      have e : z = t.cps.toList := of_decide_eq_true h.1
      exact ⟨.str t, ⟨k, rfl⟩, fun _ _ => rep_str.mpr ⟨by rw [e, toS_nm], lit_okS h.2⟩⟩
    · cases ‹0 = _ + 1›
    · cases ‹0 = _ + 1›
    · cases h
  | succ n ih =>
    intro d u h
    unfold dvB at h
    split at h
    · exact ⟨.non, rfl, fun _ _ => rep_non.mpr rfl⟩
    · rw [beq_iff_eq] at h
      subst h
      exact ⟨.bl _, rfl, fun _ _ => rep_bl.mpr rfl⟩
    · have h := of_decide_eq_true h
      subst h
      exact ⟨.int _, ⟨_, rfl⟩, fun _ _ => rep_int.mpr rfl⟩
    · rename_i z t k
      rw [Bool.and_eq_true] at h
      have e : z = t.cps.toList := of_decide_eq_true h.1
      exact ⟨.str t, ⟨k, rfl⟩, fun _ _ => rep_str.mpr ⟨by rw [e, toS_nm], lit_okS h.2⟩⟩
    · rename_i n' l a e0
      cases e0
      split at h
      · rename_i c dd its m sl q
        rw [Bool.and_eq_true, Bool.and_eq_true] at h
        obtain ⟨h1, h2, h3⟩ := h
        obtain ⟨vs, k1, k2⟩ := all2_ok K ih l its.toList h3
        refine ⟨.ref a, rfl, fun ρ H => rep_tup.mpr ⟨a, vs, rfl, .inr ⟨_, its, m, q, ?_, rfl, of_decide_eq_true h2, k1⟩, k2 ρ H⟩⟩
        exact congrArg Value.type (of_decide_eq_true h1)
      · cases h
    · rename_i n' l a e0
      cases e0
      split at h
      · rename_i c its m sl q
        rw [Bool.and_eq_true, Bool.and_eq_true] at h
        obtain ⟨h1, h2, h3⟩ := h
        obtain ⟨vs, k1, k2⟩ := all2_ok K ih l its.toList h3
        refine ⟨.ref a, rfl, fun ρ H => rep_rol.mpr ⟨a, vs, rfl, .inr (.inr ⟨_, its, m, q, ?_, rfl, rfl, of_decide_eq_true h2, k1⟩), k2 ρ H⟩⟩
        exact congrArg Value.type (of_decide_eq_true h1)
      · cases h
    · cases h
def conB (x : Nm) (d : D) : Bool := match PySem.W.nsIn K mainGlobals (toS x) with
  | some (some u) => dvB K 6 d u
  | _ => false
def tabB (x : Nm) (kvs : List (Nm × D)) : Bool := match PySem.W.nsIn K mainGlobals (toS x) with
  | some (some (.ref a)) => kvs.all fun q => match PySem.W.nsIn K a (toS q.1) with
    | some (some u) => dvB K 6 q.2 u
    | _ => false
  | _ => false
def Prg.cf (p : Prg) : Bool := (p.cons.all fun q => conB K q.1 q.2) && p.dcs.all fun q => tabB K q.1 q.2
end
def Prg.ts (p : Prg) : List He.Tab := p.dcs.map fun q => (fun K => He.ga K (toS q.1), q.2.map fun r => toS r.1)
abbrev AlZ : Type := He.AlT × Bool
def obsZ (p : Prg) (K : PySem.W.Frag) : AlZ := (He.obsT p.fa p.fn p.ts K, p.cf K)
def valZ (p : Prg) (w : World) : AlZ := (He.valT p.fn p.ts w, true)
def obsZG (n : Nat) (p : Prg) (g : Addr → Option Obj) : AlZ := obsZ p (He.frG g (He.asD g n))
def SaysZ (p : Prg) (w : World) (K : PySem.W.Frag) : Prop := obsZ p K = valZ p w
def hookZ (n : Nat) (p : Prg) : PySem.W.Hook where
  α := AlZ
  obs := fun s => obsZG n p s.heap.get?
  val := fun w => valZ p w
  says := fun w h => ∃ K : PySem.W.Frag, K.In h ∧ SaysZ p w K
  of := fun _ _ e => ⟨_, He.frG_in, e⟩
  keeps := fun _ _ _ ⟨K, hK, c⟩ k => ⟨K, PySem.W.Frag.In.keeps hK k, c⟩
theorem obsZG_eq {n : Nat} {p : Prg} {g : Addr → Option Obj} {s : Shared} (h : ∀ a, g a = s.heap.get? a) : obsZG n p g = (hookZ n p).obs s := by
  have e : g = s.heap.get? := funext h
  rw [e] <;> rfl
section
variable {p : Prg} {K : PySem.W.Frag} {w : World} {h : Heap} {mg : Str → Option Value}
theorem SaysZ.t (c : SaysZ p w K) : He.SaysT p.fa p.fn p.ts w K := congrArg (fun z : AlZ => z.1) c
theorem SaysZ.d (c : SaysZ p w K) : He.SaysD p.fa p.fn K := c.t.d
theorem SaysZ.b (c : SaysZ p w K) : p.cf K = true := congrArg (fun z : AlZ => z.2) c
theorem fget_mem : ∀ {l : List (Nm × D)} {x : Nm} {d : D}, fget l x = some d → (x, d) ∈ l
  | [], _, _, e => by cases e
  | q :: r, x, d, e => by
    unfold fget at e
    split at e
    · rename_i z
      cases e
      rw [← z]
      exact List.mem_cons_self
    · exact List.mem_cons_of_mem _ (fget_mem e)
theorem dcOf_mem : ∀ {l : List (Nm × List (Nm × D))} {x : Nm} {d : List (Nm × D)}, dcOf l x = some d → (x, d) ∈ l
  | [], _, _, e => by cases e
  | q :: r, x, d, e => by
    unfold dcOf at e
    split at e
    · rename_i z
      cases e
      rw [← z]
      exact List.mem_cons_self
    · exact List.mem_cons_of_mem _ (dcOf_mem e)
theorem con_ok (KX : K.In h) (Gm : h.Ns mainGlobals mg) (c : SaysZ p w K) {x : Str} {d : D} (e : fget p.cons x.cps.toList = some d) : ∃ v u, mg x = some u ∧ RelV v u ∧ ∀ ρ H, Rep K ρ H d v := by
  have hb := c.b
  unfold Prg.cf at hb
  rw [Bool.and_eq_true] at hb
  have := List.all_eq_true.mp hb.1 _ (fget_mem e)
  unfold conB at this
  dsimp only at this
  rw [toS_nm] at this
  split at this
  · rename_i u hu
    obtain ⟨v, h1, h2⟩ := dvB_ok K 6 d u this
    exact ⟨v, u, PySem.W.mg_of KX Gm hu, h1, h2⟩
  · cases this
theorem tab_ok (KX : K.In h) (Gm : h.Ns mainGlobals mg) (c : SaysZ p w K) {x : Str} {kvs : List (Nm × D)} (e : dcOf p.dcs x.cps.toList = some kvs) : ∃ t, mg x = some (.ref t) ∧ ∀ s d, fget kvs s = some d → ∃ v, KDct K w t (toS s) v ∧ ∀ ρ H, Rep K ρ H d v := by
  have hb := c.b
  unfold Prg.cf at hb
  rw [Bool.and_eq_true] at hb
  have hm := dcOf_mem e
  have := List.all_eq_true.mp hb.2 _ hm
  unfold tabB at this
  dsimp only at this
  rw [toS_nm] at this
  split at this
  · rename_i a hu
    obtain ⟨i, hi⟩ := List.mem_iff_getElem?.mp hm
    have hk := c.t.tab i (t := (fun K => He.ga K (toS x.cps.toList), kvs.map fun r => toS r.1)) (by unfold Prg.ts; rw [List.getElem?_map, hi] <;> rfl)
    have eg : He.ga K x = a := by
      unfold He.ga
      rw [hu]
    rw [toS_nm] at hk
    dsimp only at hk
    rw [eg] at hk
    obtain ⟨es, n, k1, k2, k3⟩ := hk
    refine ⟨a, PySem.W.mg_of KX Gm hu, fun s d es2 => ?_⟩
    have := List.all_eq_true.mp this _ (fget_mem es2)
    dsimp only at this
    split at this
    · rename_i u hu2
      obtain ⟨v, h1, h2⟩ := dvB_ok K 6 d u this
      exact ⟨v, ⟨es, n, u, k1, k2, hu2, h1⟩, h2⟩
    · cases this
  · cases this
end
/-- what must be seen of each def -/
structure DOk (p : Prg) (d : PDef) : Prop where
  sc : FnScope d.N d.ps (defScope d.st)
  tr : ∃ n j, mapO (trS (trE (n + 1)) (p.tc d.N (defScope d.st)) j) (defBody d.st) = some d.F.body
  np : d.ps.length = d.F.np
  ns : d.N.length = d.F.ns
  dl : d.F.dfl.length ≤ d.F.np
  dfl : ∀ K ρ H, Reps K ρ H d.F.dfl (d.d.dvs K)
  bind : ∀ (K : PySem.W.Frag) (fd : FuncData), FunD K (toS d.id.2) d.qual (defArgs d.st) (defBody d.st) (defScope d.st) (d.d.dvs K) [] (He.fAd K (atF d.id)) fd →
    ∀ m, m ≤ d.F.dfl.length → ∃ ds, Vals ((d.d.dvs K).drop ((d.d.dvs K).length - m)) ds ∧ Binds K fd d.ps ds
/-- a def without defaults -/
theorem DOk.of {p : Prg} {d : PDef} (sc : FnScope d.N d.ps (defScope d.st)) (tr : ∃ n j, mapO (trS (trE (n + 1)) (p.tc d.N (defScope d.st)) j) (defBody d.st) = some d.F.body) (np : d.ps.length = d.F.np) (ns : d.N.length = d.F.ns) (h1 : d.F.dfl = []) (h2 : d.dfl = [])
    (b : ∀ (kV doc pm : Value) (an : Option Addr) (cdv ct : Value) (us : List Value), us.length = d.ps.length → bindArgs (PySem.W.fnOf (toS d.id.2) d.qual (defArgs d.st) (defBody d.st) (defScope d.st) .none kV doc pm an cdv ct) ⟨us, []⟩ = pure (d.ps.zip us)) : DOk p d := by
  have e : ∀ K, d.d.dvs K = [] := fun K => by unfold He.DefD.dvs PDef.d; rw [h2] <;> rfl
  refine ⟨sc, tr, np, ns, by rw [h1]; exact Nat.zero_le _, fun K ρ H => by rw [h1, e]; exact Reps.nil, fun K fd F m hm => ⟨[], ?_, ?_⟩⟩
  · rw [e, List.drop_nil]; exact .nil
  · rw [e] at F
    exact F.bindsN b
section
variable {p : Prg} {K : PySem.W.Frag} {h : Heap} {mg : Str → Option Value} {P : Program} {w : World} {base : Heap}
theorem says_fa (c : He.SaysD p.fa p.fn K) {f : He.Fa} (m : f ∈ p.fa) : f.ok K = true := by
  obtain ⟨i, hi⟩ := List.mem_iff_getElem?.mp m
  exact c.fact i hi
theorem says_fn (c : He.SaysD p.fa p.fn K) {d : PDef} (m : d ∈ p.defs) : ∃ fd, FunD K (toS d.id.2) d.qual (defArgs d.st) (defBody d.st) (defScope d.st) (d.d.dvs K) [] (He.fAd K (atF d.id)) fd := by
  obtain ⟨i, hi⟩ := List.mem_iff_getElem?.mp m
  exact c.def_ i (d := d.d) (by unfold Prg.fn; rw [List.getElem?_map, hi] <;> rfl)
theorem clsOf_mem : ∀ {l : List (Nm × List Nm × List Nm)} {c : Nm} {q : List Nm × List Nm}, clsOf l c = some q → (c, q) ∈ l
  | [], _, _, e => by unfold clsOf at e; cases e
  | a :: r, c, q, e => by
    unfold clsOf at e
    split at e
    · rename_i h
      cases e
      rw [← h]
      exact List.mem_cons_self
    · exact List.mem_cons_of_mem _ (clsOf_mem e)
theorem cls_fa (c : He.SaysD p.fa p.fn K) {x : Nm} {q : List Nm × List Nm} (e : clsOf p.cls x = some q) {f : He.Fa} (m : f ∈ clsFa (x, q)) : f.ok K = true :=
  says_fa c (by unfold Prg.fa; exact List.mem_append_left _ (List.mem_append_right _ (List.mem_flatMap.mpr ⟨(x, q), clsOf_mem e, m⟩)))
theorem cls_ok (hne : ∀ c q, clsOf p.cls c = some q → c ≠ []) (c : He.SaysD p.fa p.fn K) {x : Nm} {q : List Nm × List Nm} (e : clsOf p.cls x = some q) : ClsOk K (p.G K) x where
  cl := He.cls_ok (cls_fa c e (by unfold clsFa; simp))
  mt := fun m f hm => by
    have hm : (match clsOf p.cls x with
      | some (_, ms) => if m ∈ ms then some (x, m) else none
      | none => none) = some f := hm
    rw [e] at hm
    dsimp only at hm
    split at hm
    · rename_i hi
      cases hm
      have := He.meth_ok (cls_fa c e (f := .meth (toS x) (toS m)) (by unfold clsFa; simp; exact ⟨m, hi, rfl⟩))
      have e2 : (p.G K).fad (x, m) = He.ma K (He.ga K (toS x)) (toS m) := by
        show He.fAd K (atF (x, m)) = _
        unfold atF
        rw [if_neg (hne x q e)]
        rfl
      rw [e2]
      exact this
    · cases hm
  at_ := fun f hf => by
    have hf : (match clsOf p.cls x with
      | some (fs, _) => decide (f ∈ fs)
      | none => false) = true := hf
    rw [e] at hf
    have hi := of_decide_eq_true hf
    exact He.noat_ok (cls_fa c e (f := .noat (toS x) (toS f)) (by unfold clsFa; simp; exact ⟨f, hi, rfl⟩))
/-- every def keeps what the small language says of it -/
theorem all_ok (KX : K.In h) (Gm : h.Ns mainGlobals mg) (cz : SaysZ p w K) (hne : ∀ c q, clsOf p.cls c = some q → c ≠ []) (hd : ∀ d ∈ p.defs, DOk p d) :
    ∀ k, ∀ d ∈ p.defs, ∀ fd, FunD K (toS d.id.2) d.qual (defArgs d.st) (defBody d.st) (defScope d.st) (d.d.dvs K) [] (He.fAd K (atF d.id)) fd → FnG (p.G K) p.P P w K mg base k d.id d.F fd d.ps := by
  have c := cz.d
  have fdat : ∀ d ∈ p.defs, ∀ fd, FunD K (toS d.id.2) d.qual (defArgs d.st) (defBody d.st) (defScope d.st) (d.d.dvs K) [] (He.fAd K (atF d.id)) fd → FDat (p.G K) K d.id d.F (p.tc d.N (defScope d.st)) d.N (toS d.id.2) d.qual (defArgs d.st) (defBody d.st) (defScope d.st) (d.d.dvs K) fd d.ps := fun d m fd F =>
    have D := hd d m
    ⟨F, D.sc, rfl, rfl, rfl, D.tr, D.np, D.ns, D.dl, D.dfl K, D.bind K fd F⟩
  have glo : ∀ d ∈ p.defs, ∀ x : Nm, d.id = ([], x) → mg (toS x) = some (.ref (He.ga K (toS x))) ∧ PySem.W.keepIn K (.ref ((p.G K).fad ([], x))) = true := fun d m x e => by
    refine ⟨He.glo_ok KX Gm (says_fa c (by unfold Prg.fa; refine List.mem_append_left _ (List.mem_append_left _ (List.mem_filterMap.mpr ⟨d, m, ?_⟩)); rw [e]; rfl)), ?_⟩
    obtain ⟨fd, F⟩ := says_fn c m
    have := F.kp
    rw [e] at this
    exact this
  intro k
  induction k with
  | zero => exact fun d m fd F => fn_zero (fdat d m fd F)
  | succ k ih =>
    intro d m fd F
    refine fn_step (fdat d m fd F) (fun f F hf => ?_) (fun x f hx => ?_) (fun x q f hx => ?_) (fun x hx => ?_) (fun x kvs hx => tab_ok KX Gm cz hx) (fun x d hx => con_ok KX Gm cz hx)
    · unfold Prg.P at hf
      cases e : p.defs.find? fun d => decide (d.id = f) with
      | none => rw [e] at hf; cases hf
      | some d2 =>
        rw [e] at hf
        cases hf
        have m2 := List.mem_of_find?_eq_some e
        have e2 : d2.id = f := by simpa using List.find?_some e
        subst e2
        obtain ⟨fd2, F2⟩ := says_fn c m2
        exact ⟨fd2, d2.ps, ih d2 m2 fd2 F2⟩
    · have hx : (if (p.defs.any fun d => decide (d.id = ([], x.cps.toList))) = true then some (([], x.cps.toList) : Fid) else none) = some f := hx
      split at hx
      · rename_i ha
        cases hx
        obtain ⟨d2, m2, e2⟩ := List.any_eq_true.mp ha
        have := glo d2 m2 _ (of_decide_eq_true e2)
        rw [toS_nm] at this
        have e3 : (p.G K).fad ([], x.cps.toList) = He.ga K x := by
          show He.fAd K (atF ([], x.cps.toList)) = _
          unfold atF
          rw [if_pos rfl, toS_nm]
          rfl
        rw [e3] at this ⊢
        exact this
      · cases hx
    · have hx : (match clsOf p.cls x.cps.toList with
        | some _ => some (x.cps.toList, ((x.cps.toList, ini) : Fid))
        | none => none) = some (q, f) := hx
      cases e : clsOf p.cls x.cps.toList with
      | none => rw [e] at hx; cases hx
      | some cq =>
        rw [e] at hx
        cases hx
        have k1 := He.glo_ok KX Gm (cls_fa c e (f := .glo (toS x.cps.toList)) (by unfold clsFa; simp))
        have k2 := He.mkr_ok (cls_fa c e (f := .mkr (toS x.cps.toList)) (by unfold clsFa; simp))
        refine ⟨by rw [toS_nm] at k1; show mg x = some (.ref (He.ga K (toS x.cps.toList))); rw [toS_nm]; exact k1, ?_, cls_ok hne c e⟩
        have e2 : (p.G K).fad (x.cps.toList, ini) = He.ma K (He.ga K (toS x.cps.toList)) "__init__" := by
          show He.fAd K (atF (x.cps.toList, ini)) = _
          unfold atF
          rw [if_neg (hne _ cq e)]
          rfl
        rw [e2]
        exact k2
    · have hm : x.cps.toList ∈ p.free := of_decide_eq_true hx
      have := He.free_ok KX Gm (says_fa c (f := .free (toS x.cps.toList)) (by unfold Prg.fa; exact List.mem_append_right _ (List.mem_map.mpr ⟨_, hm, rfl⟩)))
      rw [toS_nm] at this
      exact this
theorem reps_ints {ρ : List Addr} {H : Hp} : ∀ ns : List Int, Reps K ρ H (ns.map D.int) (ns.map V.int)
  | [] => Reps.nil
  | n :: r => Reps.cons (rep_int.mpr rfl) (reps_ints r)
theorem rol_of {H : Hp} {a : Addr} {xs : List V} (hO : Only H) (hS : SqL K H a xs) : RoL K H a xs := by
  rcases hS with (z | ⟨o, z⟩) | z
  · rcases hO a with y | ⟨o, ys, y⟩ <;> (rw [y] at z; cases z)
  · exact .inl ⟨o, z⟩
  · exact .inr (.inr z)
/-- the law's own promise -/
theorem law_sp {k : Nat} {F : Fn} {H : Hp} {a : Addr} {ns : List Int} (hnp : F.np = 1) (hO : Only H) (hS : SqL K H a (ns.map V.int)) (hm : ∃ h', runK p.P p.tb k F [.rol (ns.map D.int)] [] = .ok (.bl true) h') :
    spF K (p.G K) F.np (runK p.P (p.G K).tb k F) [.ref a] H (fun v _ => v = .bl true) (fun _ _ _ => False) := by
  obtain ⟨h', e⟩ := hm
  refine ⟨hnp.symm, [], [], [.rol (ns.map D.int)], ⟨rfl, List.nodup_nil, fun n o a h => by simp at h, fun a m => by cases m⟩, Reps.cons ?_ Reps.nil, ?_⟩
  · rw [Rep]
    exact ⟨a, _, rfl, rol_of hO hS, reps_ints ns⟩
  · show Out _ _ _ _ _ _ _ (runK p.P p.tb k F [.rol (ns.map D.int)] [])
    rw [e]
    intro ρ1 H1 e1 S1 v rv
    exact rep_bl.mp rv
end
/-- a law's end; what a def may let out turns with the world -/
theorem walkW {l : PySem.W.OpenLaw} {n k : Nat} {q : Program} {loose : List Str} {XP : (Str → Option Value) → Heap → Prop}
    {YP : World → Heap → Prop} {d : DefRec} {x : Str} (hn : l.most = some n) (hn2 : n ≤ sizeLine) (hdf : d.params.defaults = [])
    (hr : Room k callerA)
    (F : ∀ (w : World) (mg : Str → Option Value) (f : Addr) (h : Heap), YP w h → h.Ns mainGlobals mg → mg d.name = some (.ref f) →
      ∃ (K : PySem.W.Frag) (fd : FuncData) (sp : Sp),
        K.In h ∧ (∀ (s : Shared) (v : Value), BindsTo s fd ⟨[v], []⟩ [(x, v)]) ∧
        (∀ (H : Hp) (a : Addr) (ns : List Int), ns.length ≤ n → Only H → SqL K H a (ns.map V.int) →
          sp [.ref a] H (fun v _ => v = .bl true) fun _ _ _ => False) ∧
        ∀ b : Heap, K.In b → b.Ns mainGlobals mg → FnOk l.prog w K mg b (L2.CX l.prog w) k f fd [x] sp) :
    PySem.W.WalkO q loose XP YP l.row.toRowW d []
      (fun g us => PySem.call g us) := by
  refine Att.attach_call hn hdf fun w t0 t1 m0 m1 f ob pa co dc at1 us is Gd Yd h1 h2 h3 hm h5 hi hl hg => ?_
  obtain ⟨K, fd, sp, KX, hb, hs, hF⟩ := F w m0 f _ Yd Gd.T.g hm
  refine law_call KX Gd.T.g Gd.T.b Gd.T.builtins Gd.T.nolimit hg h5 hi (Nat.le_trans hl hn2) hr hF hb ?_ ?_
  · exact fun H hO hS => hs H at1 is hl hO hS
  · rintro H u t2 ⟨_, _, _, _, _, _, _, _, _, _, _, _, z⟩
    exact z
/-- the whole of a law, from the small language's answer -/
theorem law_end {p : Prg} {dl : PDef} {k : Nat} {P : Program} {w : World} {K : PySem.W.Frag} {h : Heap} {mg : Str → Option Value} {fa : Addr} {xs : Str} (KX : K.In h) (Gm : h.Ns mainGlobals mg) (cz : SaysZ p w K) (hne : ∀ c q, clsOf p.cls c = some q → c ≠ [])
    (hd : ∀ d ∈ p.defs, DOk p d) (hl : dl ∈ p.defs) (hid : dl.id.1 = []) (hps : dl.ps = [xs]) (hdfl : dl.dfl = []) (hfa : mg (toS dl.id.2) = some (.ref fa))
    (b : ∀ (kV doc pm : Value) (an : Option Addr) (cdv ct : Value) (us : List Value), us.length = dl.ps.length → bindArgs (PySem.W.fnOf (toS dl.id.2) dl.qual (defArgs dl.st) (defBody dl.st) (defScope dl.st) .none kV doc pm an cdv ct) ⟨us, []⟩ = pure (dl.ps.zip us))
    (n : Nat) (hm : ∀ ns : List Int, ns.length ≤ n → ∃ h', runK p.P p.tb k dl.F [.rol (ns.map D.int)] [] = .ok (.bl true) h') :
    ∃ (K : PySem.W.Frag) (fd : FuncData) (sp : Sp), K.In h ∧ (∀ (s : Shared) (u : Value), BindsTo s fd ⟨[u], []⟩ [(xs, u)]) ∧
        (∀ (H : Hp) (a : Addr) (ns : List Int), ns.length ≤ n → Only H → SqL K H a (ns.map V.int) →
          sp [.ref a] H (fun v _ => v = .bl true) fun _ _ _ => False) ∧
        ∀ b : Heap, K.In b → b.Ns mainGlobals mg → FnOk P w K mg b (L2.CX P w) (2 * k) fa fd [xs] sp := by
  have c := cz.d
  obtain ⟨fd, F⟩ := says_fn c hl
  have ed : dl.d.dvs K = [] := by unfold He.DefD.dvs PDef.d; rw [hdfl] <;> rfl
  have F0 := F
  rw [ed] at F0
  have eA : He.fAd K (atF dl.id) = fa := by
    have g := He.glo_ok KX Gm (says_fa c (f := .glo (toS dl.id.2)) (by unfold Prg.fa; refine List.mem_append_left _ (List.mem_append_left _ (List.mem_filterMap.mpr ⟨dl, hl, ?_⟩)); rw [if_pos hid]))
    rw [hfa] at g
    cases g
    unfold atF
    rw [if_pos hid]
    rfl
  have hb := FunD.bindsA (ps := dl.ps) F0 b
  refine ⟨K, fd, spF K (p.G K) dl.F.np (runK p.P (p.G K).tb k dl.F), KX, fun s u => ?_, fun H a ns h1 h2 h3 => ?_, fun bs h1 h2 => ?_⟩
  · have := hb s [u] (by rw [hps] <;> rfl)
    rw [hps] at this
    exact this
  · have e1 : dl.F.np = 1 := by rw [← (hd dl hl).np, hps] <;> rfl
    exact law_sp e1 h2 h3 (hm ns h1)
  · have := (all_ok (P := P) (w := w) (base := bs) KX Gm cz hne hd k dl hl fd F).1
    have e2 : (p.G K).fad dl.id = fa := eA
    rw [e2, hps] at this
    exact this
end Z

/-! ZM: weakest preconditions of the small language, plain Lean. -/
namespace Z
open PySem

def Wp {α : Type} (r : Res α) (Q : α → Hh → Prop) (X : Nm → List (Nm × D) → Hh → Prop) : Prop :=
  match r with
  | .ok a h => Q a h
  | .exc c fs h => X c fs h
  | .bad => False
abbrev XX := Nm → List (Nm × D) → Hh → Prop
section
variable {α β : Type} {X : XX}
@[simp] theorem wp_ok {a : α} {h : Hh} {Q : α → Hh → Prop} : Wp (.ok a h) Q X ↔ Q a h := Iff.rfl
@[simp] theorem wp_exc {c : Nm} {fs : List (Nm × D)} {h : Hh} {Q : α → Hh → Prop} : Wp (.exc c fs h : Res α) Q X ↔ X c fs h := Iff.rfl
@[simp] theorem wp_bad {Q : α → Hh → Prop} : Wp (.bad : Res α) Q X ↔ False := Iff.rfl
@[simp] theorem wp_bind {r : Res α} {f : α → Hh → Res β} {Q : β → Hh → Prop} : Wp (r.bind f) Q X ↔ Wp r (fun a h => Wp (f a h) Q X) X := by
  cases r <;> exact Iff.rfl
@[simp] theorem wp_st {r : Res α} {sg : Sg} {f : α → Hh → Res (Fl × Sg)} {Q : Fl × Sg → Hh → Prop} : Wp (r.st sg f) Q X ↔ Wp r (fun a h => Wp (f a h) Q X) (fun c fs h => Q (.exc c fs, sg) h) := by
  cases r <;> exact Iff.rfl
theorem wp_calm {r : Res α} {Q : α → Hh → Prop} (h : Wp r Q fun _ _ _ => False) : Wp r.calm Q X := by
  cases r with
  | ok a h1 => exact h
  | exc c fs h1 => exact False.elim h
  | bad => exact h
theorem wp_mono {r : Res α} {Q Q' : α → Hh → Prop} {X' : XX} (h : Wp r Q X) (hq : ∀ a h, Q a h → Q' a h) (hx : ∀ c fs h, X c fs h → X' c fs h) : Wp r Q' X' := by
  cases r with
  | ok a h1 => exact hq _ _ h
  | exc c fs h1 => exact hx _ _ _ h
  | bad => exact h
theorem wp_and {r : Res α} {Q Q' : α → Hh → Prop} (h : Wp r Q X) (hq : ∀ a h, Q a h → Q' a h) : Wp r Q' X := wp_mono h hq fun _ _ _ x => x
theorem wp_eq {r : Res α} {Q : α → Hh → Prop} (h : Wp r Q fun _ _ _ => False) : ∃ a h', r = .ok a h' ∧ Q a h' := by
  cases r with
  | ok a h1 => exact ⟨a, h1, rfl, h⟩
  | exc c fs h1 => exact False.elim h
  | bad => exact False.elim h
@[simp] theorem wp_ofOpt {o : Option α} {h : Hh} {Q : α → Hh → Prop} : Wp (ofOpt o h) Q X ↔ ∃ a, o = some a ∧ Q a h := by
  cases o with
  | none => simp [ofOpt]
  | some a => simp [ofOpt]
/-- the value is there, and of it .. -/
def Opt {α : Type} (o : Option α) (F : α → Prop) : Prop := match o with
  | some a => F a
  | none => False
@[simp] theorem opt_some {a : α} {F : α → Prop} : Opt (some a) F ↔ F a := Iff.rfl
theorem opt_iff {o : Option α} {F : α → Prop} : Opt o F ↔ ∃ a, o = some a ∧ F a := by
  cases o with
  | none => simp [Opt]
  | some a => simp [Opt]
@[simp] theorem wp_alloc {h : Hh} {o : O} {Q : D → Hh → Prop} : Wp (alloc h o) Q X ↔ Q (.ref h.length) (h ++ [o]) := Iff.rfl

/-! ### loops -/
variable {Q : Fl × Sg → Hh → Prop}
/-- what a turn's end asks -/
def TurnQ (N : Sg → Hh → Prop) (Q : Fl × Sg → Hh → Prop) : Fl × Sg → Hh → Prop := fun p h => match p.1 with
  | .nx => N p.2 h
  | .ct => N p.2 h
  | .brk => Q (.nx, p.2) h
  | f => Q (f, p.2) h
@[simp] theorem turnQ_nx {N : Sg → Hh → Prop} {sg : Sg} {h : Hh} : TurnQ N Q (.nx, sg) h ↔ N sg h := Iff.rfl
@[simp] theorem turnQ_ct {N : Sg → Hh → Prop} {sg : Sg} {h : Hh} : TurnQ N Q (.ct, sg) h ↔ N sg h := Iff.rfl
@[simp] theorem turnQ_brk {N : Sg → Hh → Prop} {sg : Sg} {h : Hh} : TurnQ N Q (.brk, sg) h ↔ Q (.nx, sg) h := Iff.rfl
@[simp] theorem turnQ_ret {N : Sg → Hh → Prop} {v : D} {sg : Sg} {h : Hh} : TurnQ N Q (.ret v, sg) h ↔ Q (.ret v, sg) h := Iff.rfl
@[simp] theorem turnQ_exc {N : Sg → Hh → Prop} {c : Nm} {fs : List (Nm × D)} {sg : Sg} {h : Hh} : TurnQ N Q (.exc c fs, sg) h ↔ Q (.exc c fs, sg) h := Iff.rfl
theorem turnQ_step {p : Fl × Sg} {h : Hh} {N : Sg → Hh → Prop} {f : Sg → Hh → Res (Fl × Sg)} (hN : ∀ sg h, N sg h → Wp (f sg h) Q X) (q : TurnQ N Q p h) :
    Wp (match p.1 with | .nx => f p.2 h | .ct => f p.2 h | .brk => .ok (.nx, p.2) h | g => .ok (g, p.2) h : Res (Fl × Sg)) Q X := by
  obtain ⟨fl, sg⟩ := p
  cases fl <;> first | exact hN _ _ q | exact q
theorem wp_turns {body : D → Sg → Hh → Res (Fl × Sg)} {l : List D} {sg : Sg} {h : Hh} (I : Nat → Sg → Hh → Prop) (h0 : I 0 sg h)
    (step : ∀ i x sg h, l[i]? = some x → I i sg h → Wp (body x sg h) (TurnQ (I (i + 1)) Q) X) (fin : ∀ sg h, I l.length sg h → Q (.nx, sg) h) : Wp (turns body l sg h) Q X := by
  induction l generalizing I sg h with
  | nil => exact fin sg h h0
  | cons x r ih =>
    unfold turns
    rw [wp_bind]
    refine wp_and (step 0 x sg h rfl h0) fun p h1 q => ?_
    exact turnQ_step (f := fun sg h => turns body r sg h) (fun sg2 h2 hI => ih (fun i => I (i + 1)) hI (fun i y sg3 h3 hy hI3 => step (i + 1) y sg3 h3 (by simpa using hy) hI3) fin) q
theorem wp_turnsL {body : D → Sg → Hh → Res (Fl × Sg)} {n : Nat} {l : List D} (I : Nat → Sg → Hh → Prop) (hl : ∀ i sg h, I i sg h → h[n]? = some (.lst l))
    (step : ∀ i x sg h, l[i]? = some x → I i sg h → Wp (body x sg h) (TurnQ (I (i + 1)) Q) X) (fin : ∀ sg h, I l.length sg h → Q (.nx, sg) h) :
    ∀ (m i : Nat) (sg : Sg) (h : Hh), l.length < m + i → i ≤ l.length → I i sg h → Wp (turnsL body n m i sg h) Q X
  | 0, i, _, _, h1, h2, _ => by omega
  | m + 1, i, sg, h, h1, h2, h3 => by
    unfold turnsL
    rw [hl i sg h h3]
    dsimp only
    cases e : l[i]? with
    | none =>
      have : i = l.length := by
        have := List.getElem?_eq_none_iff.mp e
        omega
      subst this
      exact fin sg h h3
    | some x =>
      have hi : i < l.length := (List.getElem?_eq_some_iff.mp e).1
      show Wp (Res.bind _ _) Q X
      rw [wp_bind]
      refine wp_and (step i x sg h e h3) fun p h4 q => ?_
      exact turnQ_step (f := fun sg h => turnsL body n m (i + 1) sg h) (fun sg5 h5 hI => wp_turnsL I hl step fin m (i + 1) sg5 h5 (by omega) (by omega) hI) q
theorem wp_rounds {c : Sg → Hh → Res Bool} {body : Sg → Hh → Res (Fl × Sg)} (I : Nat → Sg → Hh → Prop)
    (step : ∀ m sg h, I m sg h → Wp (c sg h) (fun b h1 => if b = true then Wp (body sg h1) (TurnQ (fun sg h => ∃ m', m' < m ∧ I m' sg h) Q) X else Q (.nx, sg) h1) (fun c fs h => Q (.exc c fs, sg) h)) :
    ∀ (fuel m : Nat) (sg : Sg) (h : Hh), m < fuel → I m sg h → Wp (rounds c body fuel sg h) Q X
  | 0, m, _, _, h1, _ => by omega
  | f + 1, m, sg, h, h1, h2 => by
    unfold rounds
    rw [wp_st]
    refine wp_and (step m sg h h2) fun b h3 q => ?_
    cases b with
    | false => exact q
    | true =>
      have q : Wp (body sg h3) _ X := q
      show Wp (Res.bind _ _) Q X
      rw [wp_bind]
      refine wp_and q fun p h4 q => ?_
      exact turnQ_step (f := fun sg h => rounds c body f sg h) (fun sg5 h5 ⟨m', hm, hI⟩ => wp_rounds I step f m' sg5 h5 (by omega) hI) q

/-! ### comprehensions -/
theorem wp_cturns {turn : D → Hh → Res (Option D)} {l : List D} {acc : List D} {h : Hh} {R : List D → Hh → Prop} (I : Nat → List D → Hh → Prop) (h0 : I 0 acc h) (hz : acc.length + l.length ≤ SZ)
    (step : ∀ i x acc h, l[i]? = some x → I i acc h → Wp (turn x h) (fun y h' => match y with | none => I (i + 1) acc h' | some v => I (i + 1) (acc ++ [v]) h') X) (fin : ∀ acc h, I l.length acc h → R acc h) : Wp (cturns turn l acc h) R X := by
  induction l generalizing I acc h with
  | nil => exact fin acc h h0
  | cons x r ih =>
    unfold cturns
    rw [wp_bind]
    rw [List.length_cons] at hz
    refine wp_and (step 0 x acc h rfl h0) fun y h1 q => ?_
    cases y with
    | none => exact ih (fun i => I (i + 1)) q (by omega) (fun i y a h3 hy hI3 => step (i + 1) y a h3 (by simpa using hy) hI3) fin
    | some v =>
      dsimp only
      rw [if_pos (by omega)]
      exact ih (fun i => I (i + 1)) q (by simp; omega) (fun i y a h3 hy hI3 => step (i + 1) y a h3 (by simpa using hy) hI3) fin
theorem wp_cturnsL {turn : D → Hh → Res (Option D)} {n : Nat} {l : List D} {R : List D → Hh → Prop} (I : Nat → List D → Hh → Prop) (hn : ∀ i a h, I i a h → h[n]? = some (.lst l))
    (step : ∀ i x acc h, l[i]? = some x → I i acc h → Wp (turn x h) (fun y h' => match y with | none => I (i + 1) acc h' | some v => I (i + 1) (acc ++ [v]) h') X) (fin : ∀ acc h, I l.length acc h → R acc h) :
    ∀ (m i : Nat) (acc : List D) (h : Hh), l.length < m + i → i ≤ l.length → acc.length + (l.length - i) ≤ SZ → I i acc h → Wp (cturnsL turn n m i acc h) R X
  | 0, i, _, _, h1, h2, _, _ => by omega
  | m + 1, i, acc, h, h1, h2, hz, h3 => by
    unfold cturnsL
    rw [hn i acc h h3]
    dsimp only
    cases e : l[i]? with
    | none =>
      have : i = l.length := by
        have := List.getElem?_eq_none_iff.mp e
        omega
      subst this
      exact fin acc h h3
    | some x =>
      have hi : i < l.length := (List.getElem?_eq_some_iff.mp e).1
      show Wp (Res.bind _ _) R X
      rw [wp_bind]
      refine wp_and (step i x acc h e h3) fun y h4 q => ?_
      cases y with
      | none => exact wp_cturnsL I hn step fin m (i + 1) acc h4 (by omega) (by omega) (by omega) q
      | some v =>
        dsimp only
        rw [if_pos (by omega)]
        exact wp_cturnsL I hn step fin m (i + 1) (acc ++ [v]) h4 (by omega) (by omega) (by simp; omega) q
/-- elements that leave the heap -/
theorem cturns_map {turn : D → Hh → Res (Option D)} {h : Hh} (f : D → Option D) : ∀ {l : List D} {acc : List D}, (∀ x ∈ l, turn x h = .ok (f x) h) → acc.length + l.length ≤ SZ → cturns turn l acc h = .ok (acc ++ l.filterMap f) h
  | [], acc, _, _ => by simp [cturns]
  | x :: r, acc, hl, hz => by
    rw [List.length_cons] at hz
    unfold cturns
    rw [hl x List.mem_cons_self, Res.bind_ok]
    cases e : f x with
    | none =>
      dsimp only
      rw [cturns_map f (fun y hy => hl y (List.mem_cons_of_mem _ hy)) (by omega)]
      simp [e]
    | some v =>
      dsimp only
      rw [if_pos (by omega), cturns_map f (fun y hy => hl y (List.mem_cons_of_mem _ hy)) (by simp; omega)]
      simp [e]
theorem cturnsL_map {turn : D → Hh → Res (Option D)} {h : Hh} {n : Nat} {l : List D} (f : D → Option D) (hn : h[n]? = some (.lst l)) (hl : ∀ x ∈ l, turn x h = .ok (f x) h) : ∀ (m i : Nat) (acc : List D), l.length < m + i → i ≤ l.length →
    acc.length + (l.length - i) ≤ SZ → cturnsL turn n m i acc h = .ok (acc ++ (l.drop i).filterMap f) h
  | 0, i, _, h1, h2, _ => by omega
  | m + 1, i, acc, h1, h2, hz => by
    unfold cturnsL
    rw [hn]
    dsimp only
    cases e : l[i]? with
    | none =>
      have : l.length ≤ i := List.getElem?_eq_none_iff.mp e
      rw [List.drop_eq_nil_of_le this]
      simp
    | some x =>
      obtain ⟨hi, e2⟩ := List.getElem?_eq_some_iff.mp e
      dsimp only
      rw [hl x (List.mem_of_getElem? e), Res.bind_ok, List.drop_eq_getElem_cons hi, e2]
      cases e3 : f x with
      | none =>
        dsimp only
        rw [cturnsL_map f hn hl m (i + 1) acc (by omega) (by omega) (by omega)]
        simp [e3]
      | some v =>
        dsimp only
        rw [if_pos (by omega), cturnsL_map f hn hl m (i + 1) _ (by omega) (by omega) (by simp; omega)]
        simp [e3]
end

/-! ### calls -/
section
variable {P : Fid → Option Fn} {tb : Tb} {k : Nat} {f : Fid} {F : Fn} {args : List D} {h : Hh}
theorem call_eq (hP : P f = some F) (hd : F.dfl = []) (hn : args.length = F.np) : callG P (runK P tb (k + 1)) f args h = runF (callG P (runK P tb k)) tb F args h := by
  unfold callG pad
  rw [hP]
  dsimp only
  rw [hd, if_pos (by simp; omega)]
  simp [runK]
  rfl
/-- a body's end, seen from outside -/
def RetQ (Q : D → Hh → Prop) (X : XX) : Fl × Sg → Hh → Prop := fun p h => match p.1 with
  | .ret v => Q v h
  | .nx => Q .non h
  | .exc c fs => X c fs h
  | _ => False
@[simp] theorem retQ_ret {Q : D → Hh → Prop} {X : XX} {v : D} {sg : Sg} : RetQ Q X (.ret v, sg) h ↔ Q v h := Iff.rfl
@[simp] theorem retQ_nx {Q : D → Hh → Prop} {X : XX} {sg : Sg} : RetQ Q X (.nx, sg) h ↔ Q .non h := Iff.rfl
@[simp] theorem retQ_exc {Q : D → Hh → Prop} {X : XX} {c : Nm} {fs : List (Nm × D)} {sg : Sg} : RetQ Q X (.exc c fs, sg) h ↔ X c fs h := Iff.rfl
theorem wp_runF {cl : Fid → List D → Hh → Res D} {Q : D → Hh → Prop} {X : XX} (w : Wp (xss cl tb F.body (args.map some ++ List.replicate (F.ns - args.length) none) h) (RetQ Q X) fun _ _ _ => False) : Wp (runF cl tb F args h) Q X := by
  unfold runF
  cases e : xss cl tb F.body (args.map some ++ List.replicate (F.ns - args.length) none) h with
  | bad => rw [e] at w; exact w
  | exc c fs h1 => rw [e] at w; exact False.elim w
  | ok p h1 =>
    rw [e] at w
    obtain ⟨fl, sg⟩ := p
    cases fl <;> first | exact w | exact False.elim w
theorem wp_call {Q : D → Hh → Prop} {X : XX} (hP : P f = some F) (hd : F.dfl = []) (hn : args.length = F.np)
    (w : Wp (xss (callG P (runK P tb k)) tb F.body (args.map some ++ List.replicate (F.ns - args.length) none) h) (RetQ Q X) fun _ _ _ => False) : Wp (callG P (runK P tb (k + 1)) f args h) Q X := by
  rw [call_eq hP hd hn]
  exact wp_runF w
end
/-- the rest of a block -/
def SeqQ (N : Sg → Hh → Prop) (Q : Fl × Sg → Hh → Prop) : Fl × Sg → Hh → Prop := fun p h => match p.1 with
  | .nx => N p.2 h
  | f => Q (f, p.2) h
section
variable {cl : Fid → List D → Hh → Res D} {tb : Tb} {Q : Fl × Sg → Hh → Prop} {X : XX} {sg : Sg} {h : Hh} {N : Sg → Hh → Prop}
@[simp] theorem seqQ_nx : SeqQ N Q (.nx, sg) h ↔ N sg h := Iff.rfl
@[simp] theorem seqQ_ct : SeqQ N Q (.ct, sg) h ↔ Q (.ct, sg) h := Iff.rfl
@[simp] theorem seqQ_brk : SeqQ N Q (.brk, sg) h ↔ Q (.brk, sg) h := Iff.rfl
@[simp] theorem seqQ_ret {v : D} : SeqQ N Q (.ret v, sg) h ↔ Q (.ret v, sg) h := Iff.rfl
@[simp] theorem seqQ_exc {c : Nm} {fs : List (Nm × D)} : SeqQ N Q (.exc c fs, sg) h ↔ Q (.exc c fs, sg) h := Iff.rfl
theorem w_nil : Wp (xss cl tb [] sg h) Q X ↔ Q (.nx, sg) h := by rw [xss, wp_ok]
theorem w_cons {s : S} {r : List S} : Wp (xss cl tb (s :: r) sg h) Q X ↔ Wp (xs cl tb s sg h) (SeqQ (fun sg h => Wp (xss cl tb r sg h) Q X) Q) X := by
  rw [xss, wp_bind]
  cases e : xs cl tb s sg h with
  | ok p h1 =>
    obtain ⟨fl, sg1⟩ := p
    cases fl <;> exact Iff.rfl
  | exc c fs h1 => exact Iff.rfl
  | bad => exact Iff.rfl
theorem w_ite {c : E} {a b : List S} : Wp (xs cl tb (.ite c a b) sg h) Q X ↔ Wp (et cl tb c sg h) (fun t h => Wp (if t = true then xss cl tb a sg h else xss cl tb b sg h) Q X) (fun c fs h => Q (.exc c fs, sg) h) := by rw [xs, wp_st]
end

/-! ### one step at a time -/
/-- a walk's turn -/
def turnB (cl : Fid → List D → Hh → Res D) (tb : Tb) (t : T) (b : List S) : D → Sg → Hh → Res (Fl × Sg) := fun x sg h => (tg cl tb t x sg h).st sg fun sg h => xss cl tb b sg h
def walkB (cl : Fid → List D → Hh → Res D) (tb : Tb) (t : T) (b : List S) (q : Sq) (sg : Sg) (h : Hh) : Res (Fl × Sg) := match q with
  | .pur l => turns (turnB cl tb t b) l sg h
  | .lst n => match h[n]? with
    | some (.lst l) => turnsL (turnB cl tb t b) n (l.length + 1) 0 sg h
    | _ => .bad
/-- a comprehension's turn, its result -/
def compB (cl : Fid → List D → Hh → Res D) (tb : Tb) (vs : List Nat) (t : T) (c : Option E) (e : E) (sg : Sg) : D → Hh → Res (Option D) := fun x h => ((tg cl tb t x (wipes sg vs) h).bind fun sg2 h => (evc cl tb c sg2 h).bind fun b h =>
            if b then (ev cl tb e sg2 h).bind fun v h => .ok (some v) h else .ok none h).calm
def compR (cl : Fid → List D → Hh → Res D) (tb : Tb) (vs : List Nat) (t : T) (c : Option E) (e : E) (q : Sq) (sg : Sg) (h : Hh) : Res D := match q with
      | .pur l => (cturns (compB cl tb vs t c e sg) l [] h).bind fun r h => alloc h (.lst r)
      | .lst n => match h[n]? with
        | some (.lst l) => (cturnsL (compB cl tb vs t c e sg) n (l.length + 1) 0 [] h).bind fun r h => alloc h (.lst r)
        | _ => .bad
section
variable {cl : Fid → List D → Hh → Res D} {tb : Tb} {Q : Fl × Sg → Hh → Prop} {V : D → Hh → Prop} {X : XX} {sg : Sg} {h : Hh}
@[simp] theorem w_nil' : Wp (xss cl tb [] sg h) Q X ↔ Q (.nx, sg) h := w_nil
theorem w_cons' {s : S} {r : List S} : Wp (xss cl tb (s :: r) sg h) Q X ↔ Wp (xs cl tb s sg h) (SeqQ (fun sg h => Wp (xss cl tb r sg h) Q X) Q) X := w_cons
@[simp] theorem w_asg {t : T} {e : E} : Wp (xs cl tb (.asg t e) sg h) Q X ↔ Wp (ev cl tb e sg h) (fun v h => Wp (tg cl tb t v sg h) (fun sg h => Q (.nx, sg) h) (fun c fs h => Q (.exc c fs, sg) h)) (fun c fs h => Q (.exc c fs, sg) h) := by simp [xs]
@[simp] theorem w_aug {i : Nat} {o : Operator} {e : E} : Wp (xs cl tb (.aug i o e) sg h) Q X ↔ ∃ x, sg[i]? = some (some x) ∧ Wp (ev cl tb e sg h) (fun y h => Wp (augop o x y h) (fun z h => Q (.nx, sg.set i (some z)) h) (fun c fs h => Q (.exc c fs, sg) h)) (fun c fs h => Q (.exc c fs, sg) h) := by
  rw [xs]
  split
  · rename_i x e1
    simp [e1]
  · rename_i hno
    constructor
    · intro z; exact False.elim z
    · rintro ⟨x, e1, _⟩; exact absurd e1 (hno x)
@[simp] theorem w_augf {a : E} {f : Nm} {o : Operator} {e : E} : Wp (xs cl tb (.augf a f o e) sg h) Q X ↔ Wp (ev cl tb a sg h) (fun x h => Wp (getfl x f h) (fun u h => Wp (ev cl tb e sg h) (fun y h => Wp (augop o u y h) (fun z h => Wp (setfl tb x f z h) (fun _ h => Q (.nx, sg) h)
    (fun c fs h => Q (.exc c fs, sg) h)) (fun c fs h => Q (.exc c fs, sg) h)) (fun c fs h => Q (.exc c fs, sg) h)) (fun c fs h => Q (.exc c fs, sg) h)) (fun c fs h => Q (.exc c fs, sg) h) := by simp [xs]
@[simp] theorem w_augi {a i : E} {o : Operator} {e : E} : Wp (xs cl tb (.augi a i o e) sg h) Q X ↔ Wp (ev cl tb a sg h) (fun x h => Wp (ev cl tb i sg h) (fun j h => augOk x j h = true ∧ Wp (getix x j h) (fun u h => Wp (ev cl tb e sg h) (fun y h => Wp (augop o u y h) (fun z h => Wp (setix x j z h) (fun _ h => Q (.nx, sg) h)
    (fun c fs h => Q (.exc c fs, sg) h)) (fun c fs h => Q (.exc c fs, sg) h)) (fun c fs h => Q (.exc c fs, sg) h)) (fun c fs h => Q (.exc c fs, sg) h)) (fun c fs h => Q (.exc c fs, sg) h)) (fun c fs h => Q (.exc c fs, sg) h) := by
  rw [xs, wp_st]
  constructor <;> refine fun w => wp_and w fun x h1 q => ?_
  · rw [wp_st] at q
    refine wp_and q fun j h2 q => ?_
    split at q
    · rename_i hk
      refine ⟨hk, ?_⟩
      simpa using q
    · exact False.elim q
  · rw [wp_st]
    refine wp_and q fun j h2 q => ?_
    obtain ⟨hk, q⟩ := q
    rw [if_pos hk]
    simpa using q
@[simp] theorem w_ex {e : E} : Wp (xs cl tb (.ex e) sg h) Q X ↔ Wp (ev cl tb e sg h) (fun _ h => Q (.nx, sg) h) (fun c fs h => Q (.exc c fs, sg) h) := by simp [xs]
@[simp] theorem w_ret {e : E} : Wp (xs cl tb (.ret e) sg h) Q X ↔ Wp (ev cl tb e sg h) (fun v h => Q (.ret v, sg) h) (fun c fs h => Q (.exc c fs, sg) h) := by simp [xs]
@[simp] theorem w_retn : Wp (xs cl tb .retn sg h) Q X ↔ Q (.ret .non, sg) h := by simp [xs]
@[simp] theorem w_pass : Wp (xs cl tb .pass sg h) Q X ↔ Q (.nx, sg) h := by simp [xs]
@[simp] theorem w_brk : Wp (xs cl tb .brk sg h) Q X ↔ Q (.brk, sg) h := by simp [xs]
@[simp] theorem w_cont : Wp (xs cl tb .cont sg h) Q X ↔ Q (.ct, sg) h := by simp [xs]
@[simp] theorem w_stuck : Wp (xs cl tb .stuck sg h) Q X ↔ False := by simp [xs]
@[simp] theorem w_ite' {c : E} {a b : List S} : Wp (xs cl tb (.ite c a b) sg h) Q X ↔ Wp (et cl tb c sg h) (fun t h => if t = true then Wp (xss cl tb a sg h) Q X else Wp (xss cl tb b sg h) Q X) (fun c fs h => Q (.exc c fs, sg) h) := by
  rw [w_ite]
  cases et cl tb c sg h with
  | ok t h1 => cases t <;> exact Iff.rfl
  | exc c fs h1 => exact Iff.rfl
  | bad => exact Iff.rfl
@[simp] theorem w_each {t : T} {i : I} {b : List S} : Wp (xs cl tb (.each t i b) sg h) Q X ↔ Wp (ei cl tb i sg h) (fun q h => Wp (walkB cl tb t b q sg h) Q X) (fun c fs h => Q (.exc c fs, sg) h) := by
  rw [xs, wp_st]
  rfl
@[simp] theorem w_whl {c : E} {b : List S} : Wp (xs cl tb (.whl c b) sg h) Q X ↔ Wp (rounds (et cl tb c) (xss cl tb b) FUEL sg h) Q X := by rw [xs]
@[simp] theorem w_del {a i : E} : Wp (xs cl tb (.del a i) sg h) Q X ↔ Wp (ev cl tb a sg h) (fun x h => Wp (ev cl tb i sg h) (fun y h => Wp (delix x y h) (fun _ h => Q (.nx, sg) h) (fun c fs h => Q (.exc c fs, sg) h)) (fun c fs h => Q (.exc c fs, sg) h)) (fun c fs h => Q (.exc c fs, sg) h) := by simp [xs]

/-! expressions -/
@[simp] theorem e_var {i : Nat} : Wp (ev cl tb (.var i) sg h) V X ↔ ∃ d, sg[i]? = some (some d) ∧ V d h := by
  rw [ev]
  split
  · rename_i d e; simp [e]
  · rename_i hno
    constructor
    · intro z; exact False.elim z
    · rintro ⟨x, e1, _⟩; exact absurd e1 (hno x)
@[simp] theorem e_cst {d : D} : Wp (ev cl tb (.cst d) sg h) V X ↔ V d h := by rw [ev]; rfl
@[simp] theorem e_tup {es : List E} : Wp (ev cl tb (.tup es) sg h) V X ↔ Wp (evs cl tb es sg h) (fun xs h => xs.length ≤ SZ ∧ V (.tup xs) h) X := by
  rw [ev, wp_bind]
  constructor <;> refine fun w => wp_and w fun xs h1 q => ?_
  · split at q
    · exact ⟨by assumption, q⟩
    · exact False.elim q
  · rw [if_pos q.1]; exact q.2
@[simp] theorem e_lst {es : List E} : Wp (ev cl tb (.lst es) sg h) V X ↔ Wp (evs cl tb es sg h) (fun xs h => xs.length ≤ SZ ∧ V (.ref h.length) (h ++ [.lst xs])) X := by
  rw [ev, wp_bind]
  constructor <;> refine fun w => wp_and w fun xs h1 q => ?_
  · split at q
    · exact ⟨by assumption, q⟩
    · exact False.elim q
  · rw [if_pos q.1]; exact q.2
@[simp] theorem e_dct {es : List E} : Wp (ev cl tb (.dct es) sg h) V X ↔ Wp (evs cl tb es sg h) (fun xs h => ∃ kvs, pairUp xs [] = some kvs ∧ xs.length ≤ 30 ∧ V (.ref h.length) (h ++ [.dct kvs])) X := by
  rw [ev, wp_bind]
  constructor <;> refine fun w => wp_and w fun xs h1 q => ?_
  · rw [wp_bind, wp_ofOpt] at q
    obtain ⟨kvs, e, q⟩ := q
    split at q
    · exact ⟨kvs, e, by assumption, q⟩
    · exact False.elim q
  · obtain ⟨kvs, e, q1, q⟩ := q
    rw [wp_bind, wp_ofOpt]
    exact ⟨kvs, e, by rw [if_pos q1]; exact q⟩
@[simp] theorem e_bin {o : Operator} {a b : E} : Wp (ev cl tb (.bin o a b) sg h) V X ↔ Wp (ev cl tb a sg h) (fun x h => Wp (ev cl tb b sg h) (fun y h => Wp (binop o x y h) V X) X) X := by simp [ev]
@[simp] theorem e_neg {a : E} : Wp (ev cl tb (.neg a) sg h) V X ↔ Wp (ev cl tb a sg h) (fun x h => ∃ i, x = .int i ∧ V (.int (-i)) h) X := by
  rw [ev, wp_bind]
  constructor <;> refine fun w => wp_and w fun x h1 q => ?_
  · split at q
    · exact ⟨_, rfl, q⟩
    · exact False.elim q
  · obtain ⟨i, rfl, q⟩ := q
    exact q
theorem e_nt {a : E} : Wp (ev cl tb (.nt a) sg h) V X ↔ Wp (ev cl tb a sg h) (fun x h => ∃ b, truth h x = some b ∧ V (.bl (!b)) h) X := by simp [ev]
@[simp] theorem e_ntO {a : E} : Wp (ev cl tb (.nt a) sg h) V X ↔ Wp (ev cl tb a sg h) (fun x h => Opt (truth h x) fun b => V (.bl (!b)) h) X := by
  rw [e_nt]
  simp only [opt_iff]
theorem e_and {a b : E} : Wp (ev cl tb (.and a b) sg h) V X ↔ Wp (ev cl tb a sg h) (fun x h => ∃ t, truth h x = some t ∧ if t = true then Wp (ev cl tb b sg h) V X else V x h) X := by
  rw [ev, wp_bind]
  constructor <;> refine fun w => wp_and w fun x h1 q => ?_
  · rw [wp_bind, wp_ofOpt] at q
    obtain ⟨t, e, q⟩ := q
    exact ⟨t, e, by cases t <;> exact q⟩
  · obtain ⟨t, e, q⟩ := q
    rw [wp_bind, wp_ofOpt]
    exact ⟨t, e, by cases t <;> exact q⟩
@[simp] theorem e_andO {a b : E} : Wp (ev cl tb (.and a b) sg h) V X ↔ Wp (ev cl tb a sg h) (fun x h => Opt (truth h x) fun t => if t = true then Wp (ev cl tb b sg h) V X else V x h) X := by
  rw [e_and]
  simp only [opt_iff]
theorem e_or {a b : E} : Wp (ev cl tb (.or a b) sg h) V X ↔ Wp (ev cl tb a sg h) (fun x h => ∃ t, truth h x = some t ∧ if t = true then V x h else Wp (ev cl tb b sg h) V X) X := by
  rw [ev, wp_bind]
  constructor <;> refine fun w => wp_and w fun x h1 q => ?_
  · rw [wp_bind, wp_ofOpt] at q
    obtain ⟨t, e, q⟩ := q
    exact ⟨t, e, by cases t <;> exact q⟩
  · obtain ⟨t, e, q⟩ := q
    rw [wp_bind, wp_ofOpt]
    exact ⟨t, e, by cases t <;> exact q⟩
@[simp] theorem e_orO {a b : E} : Wp (ev cl tb (.or a b) sg h) V X ↔ Wp (ev cl tb a sg h) (fun x h => Opt (truth h x) fun t => if t = true then V x h else Wp (ev cl tb b sg h) V X) X := by
  rw [e_or]
  simp only [opt_iff]
theorem e_cmp {o : CmpOp} {a b : E} : Wp (ev cl tb (.cmp o a b) sg h) V X ↔ Wp (ev cl tb a sg h) (fun x h => Wp (ev cl tb b sg h) (fun y h => ∃ t, cmpD o x y h = some t ∧ V (.bl t) h) X) X := by simp [ev, cmpop]
@[simp] theorem e_cmpO {o : CmpOp} {a b : E} : Wp (ev cl tb (.cmp o a b) sg h) V X ↔ Wp (ev cl tb a sg h) (fun x h => Wp (ev cl tb b sg h) (fun y h => Opt (cmpD o x y h) fun t => V (.bl t) h) X) X := by
  rw [e_cmp]
  simp only [opt_iff]
theorem e_chain {o p : CmpOp} {a b c : E} : Wp (ev cl tb (.chain o p a b c) sg h) V X ↔ Wp (ev cl tb a sg h) (fun x h => Wp (ev cl tb b sg h) (fun y h => ∃ t, cmpD o x y h = some t ∧ if t = true then Wp (ev cl tb c sg h) (fun z h => ∃ t, cmpD p y z h = some t ∧ V (.bl t) h) X else V (.bl false) h) X) X := by
  rw [ev, wp_bind]
  constructor <;> refine fun w => wp_and w fun x h1 q => ?_
  · rw [wp_bind] at q
    refine wp_and q fun y h2 q => ?_
    rw [wp_bind, wp_ofOpt] at q
    obtain ⟨t, e, q⟩ := q
    refine ⟨t, e, ?_⟩
    cases t with
    | false => exact q
    | true =>
      have q : Wp (Res.bind _ _) V X := q
      simpa [cmpop] using q
  · rw [wp_bind]
    refine wp_and q fun y h2 q => ?_
    obtain ⟨t, e, q⟩ := q
    rw [wp_bind, wp_ofOpt]
    refine ⟨t, e, ?_⟩
    cases t with
    | false => exact q
    | true =>
      show Wp (Res.bind _ _) V X
      simpa [cmpop] using q
@[simp] theorem e_chainO {o p : CmpOp} {a b c : E} : Wp (ev cl tb (.chain o p a b c) sg h) V X ↔ Wp (ev cl tb a sg h) (fun x h => Wp (ev cl tb b sg h) (fun y h => Opt (cmpD o x y h) fun t => if t = true then Wp (ev cl tb c sg h) (fun z h => Opt (cmpD p y z h) fun t => V (.bl t) h) X else V (.bl false) h) X) X := by
  rw [e_chain]
  simp only [opt_iff]
@[simp] theorem e_idx {a i : E} : Wp (ev cl tb (.idx a i) sg h) V X ↔ Wp (ev cl tb a sg h) (fun x h => Wp (ev cl tb i sg h) (fun y h => Wp (getix x y h) V X) X) X := by simp [ev]
@[simp] theorem e_sli {a : E} {lo hi : Option E} : Wp (ev cl tb (.sli a lo hi) sg h) V X ↔ Wp (ev cl tb a sg h) (fun x h => Wp (evo cl tb lo sg h) (fun l h => Wp (evo cl tb hi sg h) (fun r h => Wp (slice x l r h) V X) X) X) X := by simp [ev]
@[simp] theorem e_call {f : Fid} {es : List E} : Wp (ev cl tb (.call f es) sg h) V X ↔ Wp (evs cl tb es sg h) (fun xs h => Wp (cl f xs h) V X) X := by simp [ev]
@[simp] theorem e_make {c : Nm} {f : Fid} {es : List E} : Wp (ev cl tb (.make c f es) sg h) V X ↔ Wp (evs cl tb es sg h) (fun xs h => Wp (cl f (.ref h.length :: xs) (h ++ [.ins c []])) (fun v h2 => v = .non ∧ V (.ref h.length) h2) X) X := by
  rw [ev, wp_bind]
  constructor <;> refine fun w => wp_and w fun x h1 q => ?_
  · unfold makeop at q
    rw [wp_bind] at q
    refine wp_and q fun v h2 q => ?_
    split at q
    · exact ⟨rfl, q⟩
    · exact False.elim q
  · unfold makeop
    rw [wp_bind]
    refine wp_and q fun v h2 q => ?_
    rw [q.1]
    exact q.2
@[simp] theorem e_blt {f : Bf} {es : List E} : Wp (ev cl tb (.blt f es) sg h) V X ↔ Wp (evs cl tb es sg h) (fun xs h => Wp (bltop f xs h) V X) X := by simp [ev]
@[simp] theorem e_mth {o : E} {m : Nm} {es : List E} : Wp (ev cl tb (.mth o m es) sg h) V X ↔ Wp (ev cl tb o sg h) (fun x h => ∃ r, recv tb x m h = some r ∧ Wp (evs cl tb es sg h) (fun xs h => Wp (methop cl r x m xs h) V X) X) X := by simp [ev]
@[simp] theorem e_tab {kvs : List (Nm × D)} {e : E} : Wp (ev cl tb (.tab kvs e) sg h) V X ↔ Wp (ev cl tb e sg h) (fun x h => ∃ s d, x = .str s ∧ fget kvs s = some d ∧ V d h) X := by
  rw [ev, wp_bind]
  constructor <;> refine fun w => wp_and w fun x h1 q => ?_
  · split at q
    · rw [wp_ofOpt] at q
      obtain ⟨d, e1, q⟩ := q
      exact ⟨_, d, rfl, e1, q⟩
    · exact False.elim q
  · obtain ⟨s, d, rfl, e1, q⟩ := q
    dsimp only
    rw [wp_ofOpt]
    exact ⟨d, e1, q⟩
@[simp] theorem e_tzip {es : List E} : Wp (ev cl tb (.tzip es) sg h) V X ↔ Wp (evs cl tb es sg h) (fun xs h => Wp (tzipL xs h) V X) X := by simp [ev]
@[simp] theorem b_tzip {x y : D} : tzipL [x, y] h = tzipop x y h := rfl
@[simp] theorem e_sset {e : E} : Wp (ev cl tb (.sset e) sg h) V X ↔ Wp (ev cl tb e sg h) (fun x h => Wp (ssetop x h) V X) X := by simp [ev]
@[simp] theorem e_fld {o : E} {f : Nm} : Wp (ev cl tb (.fld o f) sg h) V X ↔ Wp (ev cl tb o sg h) (fun x h => Wp (getfl x f h) V X) X := by simp [ev]
@[simp] theorem e_comp {vs : List Nat} {t : T} {i : I} {c : Option E} {e : E} : Wp (ev cl tb (.comp vs t i c e) sg h) V X ↔ Wp (ei cl tb i sg h) (fun q h => Wp (compR cl tb vs t c e q sg h) V X) X := by
  rw [ev, wp_bind]
  rfl
@[simp] theorem e_nil {R : List D → Hh → Prop} : Wp (evs cl tb [] sg h) R X ↔ R [] h := by rw [evs]; rfl
@[simp] theorem e_cons {e : E} {es : List E} {R : List D → Hh → Prop} : Wp (evs cl tb (e :: es) sg h) R X ↔ Wp (ev cl tb e sg h) (fun x h => Wp (evs cl tb es sg h) (fun xs h => R (x :: xs) h) X) X := by simp [evs]
@[simp] theorem e_cn {R : Bool → Hh → Prop} : Wp (evc cl tb none sg h) R X ↔ R true h := by rw [evc]; rfl
theorem e_cs {e : E} {R : Bool → Hh → Prop} : Wp (evc cl tb (some e) sg h) R X ↔ Wp (ev cl tb e sg h) (fun x h => ∃ b, truth h x = some b ∧ R b h) X := by simp [evc]
@[simp] theorem e_csO {e : E} {R : Bool → Hh → Prop} : Wp (evc cl tb (some e) sg h) R X ↔ Wp (ev cl tb e sg h) (fun x h => Opt (truth h x) fun b => R b h) X := by
  rw [e_cs]
  simp only [opt_iff]
@[simp] theorem e_on {R : Option Int → Hh → Prop} : Wp (evo cl tb none sg h) R X ↔ R none h := by rw [evo]; rfl
@[simp] theorem e_os {e : E} {R : Option Int → Hh → Prop} : Wp (evo cl tb (some e) sg h) R X ↔ Wp (ev cl tb e sg h) (fun x h => ∃ i, x = .int i ∧ R (some i) h) X := by
  rw [evo, wp_bind]
  constructor <;> refine fun w => wp_and w fun x h1 q => ?_
  · split at q
    · exact ⟨_, rfl, q⟩
    · exact False.elim q
  · obtain ⟨i, rfl, q⟩ := q
    exact q
theorem e_t {e : E} {R : Bool → Hh → Prop} : Wp (et cl tb e sg h) R X ↔ Wp (ev cl tb e sg h) (fun x h => ∃ b, truth h x = some b ∧ R b h) X := by simp [et]
@[simp] theorem e_tO {e : E} {R : Bool → Hh → Prop} : Wp (et cl tb e sg h) R X ↔ Wp (ev cl tb e sg h) (fun x h => Opt (truth h x) fun b => R b h) X := by
  rw [e_t]
  simp only [opt_iff]
/-! targets, iterables -/
variable {R : Sg → Hh → Prop}
@[simp] theorem t_nm {i : Nat} {v : D} : Wp (tg cl tb (.nm i) v sg h) R X ↔ i < sg.length ∧ R (sg.set i (some v)) h := by
  rw [tg]
  by_cases q : i < sg.length <;> simp [q]
@[simp] theorem t_fld {o : E} {f : Nm} {v : D} : Wp (tg cl tb (.fld o f) v sg h) R X ↔ Wp (ev cl tb o sg h) (fun x h => Wp (setfl tb x f v h) (fun _ h => R sg h) X) X := by simp [tg]
@[simp] theorem t_ix {a i : E} {v : D} : Wp (tg cl tb (.ix a i) v sg h) R X ↔ Wp (ev cl tb a sg h) (fun x h => Wp (ev cl tb i sg h) (fun y h => Wp (setix x y v h) (fun _ h => R sg h) X) X) X := by simp [tg]
theorem t_tup {ts : List T} {l : List D} (hl : l.length = ts.length) (w : Wp (tgs cl tb ts l sg h) R fun _ _ _ => False) : Wp (tg cl tb (.tup ts) (.tup l) sg h) R X := by
  simp only [tg, if_pos hl]
  exact wp_calm w
@[simp] theorem t_nil : Wp (tgs cl tb [] [] sg h) R X ↔ R sg h := by simp [tgs]
@[simp] theorem t_cons {t : T} {ts : List T} {v : D} {vs : List D} : Wp (tgs cl tb (t :: ts) (v :: vs) sg h) R X ↔ Wp (tg cl tb t v sg h) (fun sg h => Wp (tgs cl tb ts vs sg h) R X) X := by simp [tgs]
variable {U : Sq → Hh → Prop}
/-- what a value is to be walked as -/
def sqOf (h : Hh) : D → Option Sq
  | .tup l => some (.pur l)
  | .rol l => some (.pur l)
  | .ref n => match h[n]? with
    | some (.lst _) => some (.lst n)
    | _ => none
  | _ => none
@[simp] theorem i_seq {e : E} : Wp (ei cl tb (.seq e) sg h) U X ↔ Wp (ev cl tb e sg h) (fun x h => ∃ q, sqOf h x = some q ∧ U q h) X := by
  rw [ei, wp_bind]
  constructor <;> refine fun w => wp_and w fun x h1 q => ?_
  · cases x with
    | tup l => exact ⟨_, rfl, q⟩
    | rol l => exact ⟨_, rfl, q⟩
    | ref n =>
      dsimp only at q
      split at q
      · rename_i e1
        exact ⟨.lst n, by simp [sqOf, e1], q⟩
      · exact False.elim q
    | _ => exact False.elim q
  · obtain ⟨s, e1, q⟩ := q
    cases x with
    | tup l => cases e1; exact q
    | rol l => cases e1; exact q
    | ref n =>
      unfold sqOf at e1
      dsimp only at e1 ⊢
      split at e1
      · rename_i e2
        cases e1
        first
          | exact q
          | (rw [e2]; exact q)
      · cases e1
    | _ => cases e1
@[simp] theorem i_rng1 {a : E} : Wp (ei cl tb (.rng1 a) sg h) U X ↔ Wp (ev cl tb a sg h) (fun x h => ∃ i, x = .int i ∧ inRng i = true ∧ U (.pur (rngL 0 i)) h) X := by
  rw [ei, wp_bind]
  constructor <;> refine fun w => wp_and w fun x h1 q => ?_
  · split at q
    · split at q
      · exact ⟨_, rfl, by assumption, q⟩
      · exact False.elim q
    · exact False.elim q
  · obtain ⟨i, rfl, e, q⟩ := q
    dsimp only
    rw [if_pos e]
    exact q
@[simp] theorem i_rng2 {a b : E} : Wp (ei cl tb (.rng2 a b) sg h) U X ↔ Wp (ev cl tb a sg h) (fun x h => Wp (ev cl tb b sg h) (fun y h => ∃ i j, x = .int i ∧ y = .int j ∧ inRng i = true ∧ inRng j = true ∧ U (.pur (rngL i j)) h) X) X := by
  rw [ei, wp_bind]
  constructor <;> refine fun w => wp_and w fun x h1 q => ?_
  · rw [wp_bind] at q
    refine wp_and q fun y h2 q => ?_
    split at q
    · split at q
      · rename_i e
        rw [Bool.and_eq_true] at e
        exact ⟨_, _, rfl, rfl, e.1, e.2, q⟩
      · exact False.elim q
    · exact False.elim q
  · rw [wp_bind]
    refine wp_and q fun y h2 q => ?_
    obtain ⟨i, j, rfl, rfl, e1, e2, q⟩ := q
    dsimp only
    rw [if_pos (by rw [e1, e2] <;> rfl)]
    exact q
end

/-! ### values -/
section
variable {V : D → Hh → Prop} {U : Unit → Hh → Prop} {X : XX} {h : Hh}
@[simp] theorem o_add {i j : Int} : Wp (binop .Add (.int i) (.int j) h) V X ↔ V (.int (i + j)) h := Iff.rfl
@[simp] theorem o_sub {i j : Int} : Wp (binop .Sub (.int i) (.int j) h) V X ↔ V (.int (i - j)) h := Iff.rfl
@[simp] theorem o_mul {i j : Int} : Wp (binop .Mult (.int i) (.int j) h) V X ↔ (small i || small j) = true ∧ V (.int (i * j)) h := by
  unfold binop; dsimp only; by_cases q : (small i || small j) = true <;> simp [q]
@[simp] theorem o_fdiv {i j : Int} : Wp (binop .FloorDiv (.int i) (.int j) h) V X ↔ (j ≠ 0 ∧ j.natAbs < 1073741824) ∧ V (.int (i.fdiv j)) h := by
  unfold binop; dsimp only; by_cases q : j ≠ 0 ∧ j.natAbs < 1073741824
  · rw [if_pos q]; simp [q]
  · rw [if_neg q]; simp [q]
@[simp] theorem o_mod {i j : Int} : Wp (binop .Mod (.int i) (.int j) h) V X ↔ j ≠ 0 ∧ V (.int (i.fmod j)) h := by
  unfold binop; dsimp only; by_cases q : j ≠ 0
  · rw [if_pos q]; simp [q]
  · rw [if_neg q]; simp [q]
@[simp] theorem o_pow {i j : Int} : Wp (binop .Pow (.int i) (.int j) h) V X ↔ (0 ≤ j ∧ j ≤ 1000000 ∧ i.natAbs < 2 ^ 64) ∧ V (.int (i ^ j.toNat)) h := by
  unfold binop; dsimp only; by_cases q : 0 ≤ j ∧ j ≤ 1000000 ∧ i.natAbs < 2 ^ 64
  · rw [if_pos q]; simp only [q, wp_ok, and_self, true_and]
  · rw [if_neg q]; simp only [q, wp_bad, false_and]
@[simp] theorem o_adds {a b : Nm} : Wp (binop .Add (.str a) (.str b) h) V X ↔ a.length + b.length ≤ SZ ∧ V (.str (a ++ b)) h := by
  unfold binop; dsimp only; by_cases q : a.length + b.length ≤ SZ <;> simp [q]
@[simp] theorem o_addt {a b : List D} : Wp (binop .Add (.tup a) (.tup b) h) V X ↔ a.length + b.length ≤ SZ ∧ V (.tup (a ++ b)) h := by
  unfold binop; dsimp only; by_cases q : a.length + b.length ≤ SZ <;> simp [q]
@[simp] theorem o_addl {a b : Nat} : Wp (binop .Add (.ref a) (.ref b) h) V X ↔ ∃ xs ys, h[a]? = some (.lst xs) ∧ h[b]? = some (.lst ys) ∧ xs.length + ys.length ≤ SZ ∧ V (.ref h.length) (h ++ [.lst (xs ++ ys)]) := by
  unfold binop
  dsimp only
  split
  · rename_i xs ys e1 e2
    simp only [e1, e2, Option.some.injEq, O.lst.injEq]
    by_cases q : xs.length + ys.length ≤ SZ
    · rw [if_pos q]
      exact ⟨fun w => ⟨xs, ys, rfl, rfl, q, w⟩, fun ⟨_, _, e, f, _, w⟩ => by rw [e, f]; exact w⟩
    · rw [if_neg q]
      exact ⟨fun w => False.elim w, fun ⟨_, _, e, f, z, _⟩ => absurd z (by rw [← e, ← f]; exact q)⟩
  · rename_i hno
    exact ⟨fun w => False.elim w, fun ⟨xs, ys, e, f, _⟩ => absurd f (hno xs ys e)⟩
@[simp] theorem a_add {i j : Int} : Wp (augop .Add (.int i) (.int j) h) V X ↔ V (.int (i + j)) h := Iff.rfl
@[simp] theorem a_sub {i j : Int} : Wp (augop .Sub (.int i) (.int j) h) V X ↔ V (.int (i - j)) h := Iff.rfl
@[simp] theorem a_adds {a b : Nm} : Wp (augop .Add (.str a) (.str b) h) V X ↔ a.length + b.length ≤ SZ ∧ V (.str (a ++ b)) h := by
  unfold augop; dsimp only; by_cases q : a.length + b.length ≤ SZ <;> simp [q]
/-! truth -/
@[simp] theorem tr_non : truth h .non = some false := rfl
@[simp] theorem tr_bl {b : Bool} : truth h (.bl b) = some b := rfl
@[simp] theorem tr_int {i : Int} : truth h (.int i) = some (i != 0) := rfl
@[simp] theorem tr_str {s : Nm} : truth h (.str s) = some (!s.isEmpty) := rfl
@[simp] theorem tr_tup {l : List D} : truth h (.tup l) = some (!l.isEmpty) := rfl
@[simp] theorem tr_rol {l : List D} : truth h (.rol l) = some (!l.isEmpty) := rfl
theorem tr_lst {n : Nat} {l : List D} (e : h[n]? = some (.lst l)) : truth h (.ref n) = some (!l.isEmpty) := by simp [truth, e]
theorem tr_dct {n : Nat} {l : List (D × D)} (e : h[n]? = some (.dct l)) : truth h (.ref n) = some (!l.isEmpty) := by simp [truth, e]
/-! comparisons -/
theorem toS_inj' {a b : Nm} : toS a = toS b ↔ a = b := by
  constructor
  · intro e
    unfold toS at e
    have := congrArg (fun s => s.cps.toList) e
    simpa using this
  · rintro rfl; rfl
@[simp] theorem c_lt {i j : Int} : cmpD .Lt (.int i) (.int j) h = some (decide (i < j)) := rfl
@[simp] theorem c_le {i j : Int} : cmpD .LtE (.int i) (.int j) h = some (decide (i ≤ j)) := rfl
@[simp] theorem c_gt {i j : Int} : cmpD .Gt (.int i) (.int j) h = some (decide (j < i)) := rfl
@[simp] theorem c_ge {i j : Int} : cmpD .GtE (.int i) (.int j) h = some (decide (j ≤ i)) := rfl
@[simp] theorem c_eq {x y : D} : cmpD .Eq x y h = eqD h x y := rfl
@[simp] theorem c_ne {x y : D} : cmpD .NotEq x y h = (eqD h x y).map (!·) := rfl
@[simp] theorem c_in {x y : D} : cmpD .In x y h = isIn h x y := rfl
@[simp] theorem c_nin {x y : D} : cmpD .NotIn x y h = (isIn h x y).map (!·) := rfl
@[simp] theorem c_is {x : D} : cmpD .Is x .non h = some (isNon x) := rfl
@[simp] theorem c_isn {x : D} : cmpD .IsNot x .non h = some (!isNon x) := rfl
@[simp] theorem q_ii {i j : Int} : eqD h (.int i) (.int j) = some (decide (i = j)) := by
  show some (PyData.eqv (.int i) (.int j)) = _
  congr 1
@[simp] theorem q_ss {a b : Nm} : eqD h (.str a) (.str b) = some (decide (a = b)) := by
  show some (PyData.eqv (.str (toS a)) (.str (toS b))) = _
  congr 1
  unfold PyData.eqv
  by_cases e : a = b
  · simp [e]
  · have : toS a ≠ toS b := fun z => e (toS_inj'.mp z)
    simp [e, this]
@[simp] theorem q_is {i : Int} {b : Nm} : eqD h (.int i) (.str b) = some false := by
  show some (PyData.eqv (.int i) (.str (toS b))) = _
  congr 1
@[simp] theorem q_si {i : Int} {b : Nm} : eqD h (.str b) (.int i) = some false := by
  show some (PyData.eqv (.str (toS b)) (.int i)) = _
  congr 1
@[simp] theorem q_bb {a b : Bool} : eqD h (.bl a) (.bl b) = some (decide (a = b)) := by
  show some (PyData.eqv (.bool a) (.bool b)) = _
  congr 1
/-! subscripts -/
@[simp] theorem x_tup {l : List D} {j : Int} : Wp (getix (.tup l) (.int j) h) V X ↔ ∃ d, L2.atI l j = some d ∧ V d h := by simp [getix]
@[simp] theorem x_rol {l : List D} {j : Int} : Wp (getix (.rol l) (.int j) h) V X ↔ ∃ d, L2.atI l j = some d ∧ V d h := by simp [getix]
theorem x_lst {n : Nat} {l : List D} {j : Int} (e : h[n]? = some (.lst l)) : Wp (getix (.ref n) (.int j) h) V X ↔ ∃ d, L2.atI l j = some d ∧ V d h := by simp [getix, e]
theorem x_dct {n : Nat} {l : List (D × D)} {k : D} (e : h[n]? = some (.dct l)) (hk : keyD k = true) : Wp (getix (.ref n) k h) V X ↔ ∃ d, dget l k = some d ∧ V d h := by
  cases k <;> first | (cases hk; done) | simp [getix, e, keyD]
theorem ak_lst {n : Nat} {l : List D} {i : Int} (e : h[n]? = some (.lst l)) : augOk (.ref n) (.int i) h = decide (0 ≤ i) := by simp [augOk, e]
theorem ak_dct {n : Nat} {l : List (D × D)} {k : D} (e : h[n]? = some (.dct l)) : augOk (.ref n) k h = true := by simp [augOk, e]
theorem sx_lst {n : Nat} {l : List D} {j : Int} {v : D} {k : Nat} (e : h[n]? = some (.lst l)) (hk : L2.ixN l.length j = some k) : Wp (setix (.ref n) (.int j) v h) U X ↔ U () (h.set n (.lst (l.set k v))) := by simp [setix, e, hk]
theorem sx_dct {n : Nat} {l : List (D × D)} {k v : D} (e : h[n]? = some (.dct l)) (hk : keyD k = true) (hl : l.length < SZ) : Wp (setix (.ref n) k v h) U X ↔ U () (h.set n (.dct (dput l k v))) := by
  cases k <;> first | (cases hk; done) | simp [setix, e, keyD, hl]
theorem at_pos {α : Type} {l : List α} {i : Int} (h0 : 0 ≤ i) : L2.atI l i = l[i.toNat]? := by
  unfold L2.atI L2.ixN
  rw [if_pos h0]
  by_cases q : i < l.length
  · rw [if_pos q]; rfl
  · rw [if_neg q, List.getElem?_eq_none (by omega)]; rfl
@[simp] theorem at_zero {α : Type} {l : List α} : L2.atI l 0 = l[0]? := by
  exact at_pos (Int.le_refl 0)
@[simp] theorem at_n1 {α : Type} {l : List α} : L2.atI l 1 = l[1]? := at_pos (by decide)
@[simp] theorem at_n2 {α : Type} {l : List α} : L2.atI l 2 = l[2]? := at_pos (by decide)
@[simp] theorem at_n3 {α : Type} {l : List α} : L2.atI l 3 = l[3]? := at_pos (by decide)
@[simp] theorem at_n4 {α : Type} {l : List α} : L2.atI l 4 = l[4]? := at_pos (by decide)
@[simp] theorem at_n5 {α : Type} {l : List α} : L2.atI l 5 = l[5]? := at_pos (by decide)
@[simp] theorem at_n6 {α : Type} {l : List α} : L2.atI l 6 = l[6]? := at_pos (by decide)
@[simp] theorem at_n7 {α : Type} {l : List α} : L2.atI l 7 = l[7]? := at_pos (by decide)
@[simp] theorem at_n8 {α : Type} {l : List α} : L2.atI l 8 = l[8]? := at_pos (by decide)
@[simp] theorem at_n9 {α : Type} {l : List α} : L2.atI l 9 = l[9]? := at_pos (by decide)
@[simp] theorem at_last {α : Type} {l : List α} : L2.atI l (-1) = l.getLast? := by
  unfold L2.atI L2.ixN
  rw [if_neg (by omega)]
  cases l with
  | nil => rfl
  | cons x r =>
    rw [if_pos (by simp; omega)]
    rw [List.getLast?_eq_getElem?]
    show (x :: r)[(-1 + ((x :: r).length : Int)).toNat]? = _
    congr 1
    simp
    omega
/-! attributes -/
theorem f_get {n : Nat} {c : Nm} {fs : List (Nm × D)} {f : Nm} (e : h[n]? = some (.ins c fs)) : Wp (getfl (.ref n) f h) V X ↔ ∃ d, fget fs f = some d ∧ V d h := by simp [getfl, e]
theorem f_set {tb : Tb} {n : Nat} {c : Nm} {fs : List (Nm × D)} {f : Nm} {v : D} (e : h[n]? = some (.ins c fs)) (hl : fs.length < 1000) (ha : ((fget fs f).isSome || tb.at_ c f) = true) : Wp (setfl tb (.ref n) f v h) U X ↔ U () (h.set n (.ins c (fput fs f v))) := by
  simp only [setfl, e]
  rw [if_pos ⟨hl, ha⟩]
  exact Iff.rfl
/-! built-ins -/
@[simp] theorem b_lens {s : Nm} : Wp (bltop .len [.str s] h) V X ↔ V (.int s.length) h := Iff.rfl
@[simp] theorem b_lent {l : List D} : Wp (bltop .len [.tup l] h) V X ↔ V (.int l.length) h := Iff.rfl
@[simp] theorem b_lenr {l : List D} : Wp (bltop .len [.rol l] h) V X ↔ V (.int l.length) h := Iff.rfl
theorem b_lenl {n : Nat} {l : List D} (e : h[n]? = some (.lst l)) : Wp (bltop .len [.ref n] h) V X ↔ V (.int l.length) h := by simp [bltop, e]
theorem b_lend {n : Nat} {l : List (D × D)} (e : h[n]? = some (.dct l)) : Wp (bltop .len [.ref n] h) V X ↔ V (.int l.length) h := by simp [bltop, e]
@[simp] theorem b_abs {i : Int} : Wp (bltop .abs [.int i] h) V X ↔ V (.int (if i < 0 then -i else i)) h := Iff.rfl
@[simp] theorem b_int {i : Int} : Wp (bltop .int [.int i] h) V X ↔ V (.int i) h := Iff.rfl
@[simp] theorem b_intb {b : Bool} : Wp (bltop .int [.bl b] h) V X ↔ V (.int (if b then 1 else 0)) h := Iff.rfl
@[simp] theorem b_max {i j : Int} : Wp (bltop .max2 [.int i, .int j] h) V X ↔ V (.int (if j > i then j else i)) h := Iff.rfl
@[simp] theorem b_min {i j : Int} : Wp (bltop .min2 [.int i, .int j] h) V X ↔ V (.int (if j < i then j else i)) h := Iff.rfl
@[simp] theorem b_tuple {x : D} : Wp (bltop .tuple [x] h) V X ↔ ∃ l, seqOf h x = some l ∧ V (.tup l) h := by simp [bltop]
@[simp] theorem b_list {x : D} : Wp (bltop .list [x] h) V X ↔ ∃ l, seqOf h x = some l ∧ V (.ref h.length) (h ++ [.lst l]) := by simp [bltop]
@[simp] theorem b_sum {x : D} : Wp (bltop .sum [x] h) V X ↔ ∃ i, (lstOf h x).bind sumD = some i ∧ V (.int i) h := by simp [bltop]
@[simp] theorem b_ord {c : Nat} : Wp (bltop .ord [.str [c]] h) V X ↔ V (.int c) h := Iff.rfl
@[simp] theorem sq_tup {l : List D} : seqOf h (.tup l) = some l := rfl
@[simp] theorem sq_rol {l : List D} : seqOf h (.rol l) = some l := rfl
theorem sq_lst {n : Nat} {l : List D} (e : h[n]? = some (.lst l)) : seqOf h (.ref n) = some l := by simp [seqOf, e]
theorem lo_lst {n : Nat} {l : List D} (e : h[n]? = some (.lst l)) : lstOf h (.ref n) = some l := by simp [lstOf, e]
@[simp] theorem sqo_tup {l : List D} : sqOf h (.tup l) = some (.pur l) := rfl
@[simp] theorem sqo_rol {l : List D} : sqOf h (.rol l) = some (.pur l) := rfl
theorem sqo_lst {n : Nat} {l : List D} (e : h[n]? = some (.lst l)) : sqOf h (.ref n) = some (.lst n) := by simp [sqOf, e]
/-! methods -/
variable {cl : Fid → List D → Hh → Res D} {tb : Tb}
theorem r_ins {n : Nat} {c m : Nm} {fs : List (Nm × D)} {f : Fid} (e : h[n]? = some (.ins c fs)) (hm : tb.mt c m = some f) (hf : fget fs m = none) : recv tb (.ref n) m h = some (.ins f) := by simp [recv, e, hm, hf]
theorem r_lst {n : Nat} {m : Nm} {l : List D} (e : h[n]? = some (.lst l)) : recv tb (.ref n) m h = (lmOf m).map .bm := by simp only [recv, e]
theorem r_dct {n : Nat} {m : Nm} {l : List (D × D)} (e : h[n]? = some (.dct l)) : recv tb (.ref n) m h = (dmOf m).map .bm := by simp only [recv, e]
@[simp] theorem r_int {i : Int} {m : Nm} : recv tb (.int i) m h = (imOf m).map .bm := rfl
theorem r_app {n : Nat} {l : List D} (e : h[n]? = some (.lst l)) : recv tb (.ref n) [97, 112, 112, 101, 110, 100] h = some (.bm .append) := by simp only [recv, e]; rfl
theorem r_pop {n : Nat} {l : List D} (e : h[n]? = some (.lst l)) : recv tb (.ref n) [112, 111, 112] h = some (.bm .lpop) := by simp only [recv, e]; rfl
theorem r_ext {n : Nat} {l : List D} (e : h[n]? = some (.lst l)) : recv tb (.ref n) [101, 120, 116, 101, 110, 100] h = some (.bm .extend) := by simp only [recv, e]; rfl
theorem r_cnt {n : Nat} {l : List D} (e : h[n]? = some (.lst l)) : recv tb (.ref n) [99, 111, 117, 110, 116] h = some (.bm .count) := by simp only [recv, e]; rfl
theorem r_get {n : Nat} {l : List (D × D)} (e : h[n]? = some (.dct l)) : recv tb (.ref n) [103, 101, 116] h = some (.bm .dget) := by simp only [recv, e]; rfl
theorem r_dpop {n : Nat} {l : List (D × D)} (e : h[n]? = some (.dct l)) : recv tb (.ref n) [112, 111, 112] h = some (.bm .dpop) := by simp only [recv, e]; rfl
@[simp] theorem r_str {a : Nm} {m : Nm} : recv tb (.str a) m h = (tmOf m).map .bm := rfl
@[simp] theorem tm_join : tmOf [106, 111, 105, 110] = some .join := rfl
@[simp] theorem lm_append : lmOf [97, 112, 112, 101, 110, 100] = some .append := rfl
@[simp] theorem lm_pop : lmOf [112, 111, 112] = some .lpop := rfl
@[simp] theorem lm_extend : lmOf [101, 120, 116, 101, 110, 100] = some .extend := rfl
@[simp] theorem lm_count : lmOf [99, 111, 117, 110, 116] = some .count := rfl
@[simp] theorem dm_get : dmOf [103, 101, 116] = some .dget := rfl
@[simp] theorem dm_pop : dmOf [112, 111, 112] = some .dpop := rfl
@[simp] theorem im_bits : imOf [98, 105, 116, 95, 108, 101, 110, 103, 116, 104] = some .bitlen := rfl
theorem m_bm {k : Bm} {x : D} {m : Nm} {xs : List D} : methop cl (.bm k) x m xs h = bmeth x k xs h := rfl
@[simp] theorem m_ins {f : Fid} {x : D} {m : Nm} {xs : List D} : methop cl (.ins f) x m xs h = cl f (x :: xs) h := rfl
theorem m_append {n : Nat} {m : Nm} {v : D} {l : List D} (e : h[n]? = some (.lst l)) (hl : l.length < SZ) : Wp (methop cl (.bm .append) (.ref n) m [v] h) V X ↔ V .non (h.set n (.lst (l ++ [v]))) := by
  simp only [methop, bmeth, lmeth, e, if_pos hl, wp_ok]
theorem m_pop {n : Nat} {m : Nm} {v : D} {l : List D} (e : h[n]? = some (.lst l)) (hl : l.getLast? = some v) : Wp (methop cl (.bm .lpop) (.ref n) m [] h) V X ↔ V v (h.set n (.lst l.dropLast)) := by
  simp only [methop, bmeth, lmeth, e, hl, wp_ok]
theorem m_popi {n : Nat} {m : Nm} {i : Int} {j : Nat} {v : D} {l : List D} (e : h[n]? = some (.lst l)) (hj : L2.ixN l.length i = some j) (hl : l[j]? = some v) : Wp (methop cl (.bm .lpop) (.ref n) m [.int i] h) V X ↔ V v (h.set n (.lst (l.eraseIdx j))) := by
  simp only [methop, bmeth, lmeth, e, hj, hl, wp_ok]
theorem m_extend {n : Nat} {m : Nm} {v : D} {l l2 : List D} (e : h[n]? = some (.lst l)) (e2 : seqOf h v = some l2) (hl : l.length + l2.length < SZ) : Wp (methop cl (.bm .extend) (.ref n) m [v] h) V X ↔ V .non (h.set n (.lst (l ++ l2))) := by
  simp only [methop, bmeth, lmeth, e, e2, if_pos hl, wp_ok]
theorem m_count {n : Nat} {m : Nm} {k : Int} {l : List D} {ns : List Int} (e : h[n]? = some (.lst l)) (e2 : intsD l = some ns) : Wp (methop cl (.bm .count) (.ref n) m [.int k] h) V X ↔ V (.int (ns.count k)) h := by
  simp only [methop, bmeth, lmeth, e, e2, wp_ok]
theorem m_get2 {n : Nat} {m : Nm} {k d : D} {l : List (D × D)} (e : h[n]? = some (.dct l)) (hk : keyD k = true) : Wp (methop cl (.bm .dget) (.ref n) m [k, d] h) V X ↔ V ((dget l k).getD d) h := by
  simp only [methop, bmeth, dmeth, e, if_pos hk, wp_ok]
theorem m_get1 {n : Nat} {m : Nm} {k : D} {l : List (D × D)} (e : h[n]? = some (.dct l)) (hk : keyD k = true) : Wp (methop cl (.bm .dget) (.ref n) m [k] h) V X ↔ V ((dget l k).getD .non) h := by
  simp only [methop, bmeth, dmeth, e, if_pos hk, wp_ok]
theorem m_dpop1 {n : Nat} {m : Nm} {k v : D} {l : List (D × D)} (e : h[n]? = some (.dct l)) (hk : keyD k = true) (hv : dget l k = some v) : Wp (methop cl (.bm .dpop) (.ref n) m [k] h) V X ↔ V v (h.set n (.dct (ddel l k))) := by
  simp only [methop, bmeth, dmeth, e, if_pos hk, hv, ofOpt_some, Res.bind_ok, wp_ok]
theorem m_dpop2 {n : Nat} {m : Nm} {k d : D} {l : List (D × D)} (e : h[n]? = some (.dct l)) (hk : keyD k = true) : Wp (methop cl (.bm .dpop) (.ref n) m [k, d] h) V X ↔ V ((dget l k).getD d) (h.set n (.dct (ddel l k))) := by
  simp only [methop, bmeth, dmeth, e, if_pos hk, wp_ok]
@[simp] theorem m_bits {i : Int} {m : Nm} : Wp (methop cl (.bm .bitlen) (.int i) m [] h) V X ↔ V (.int (bitlen i)) h := Iff.rfl
theorem m_join {a : Nm} {m : Nm} {v : D} {l : List D} {ys : List Nm} (e : seqOf h v = some l) (e2 : strsD l = some ys) (hz : (ys.map (·.length)).sum + ys.length * a.length ≤ SZ) : Wp (methop cl (.bm .join) (.str a) m [v] h) V X ↔ V (.str (joinN a ys)) h := by
  simp only [methop, bmeth, tmeth, e, e2, if_pos hz, wp_ok]
/-! sorting -/
theorem b_sortT {n : Nat} {l : List D} {ks : List (List Int)} (e : h[n]? = some (.lst l)) (e0 : intsD l = none) (e2 : itupsD l = some ks) : Wp (bltop .sorted [.ref n] h) V X ↔ V (.ref h.length) (h ++ [.lst ((sortB leL ks).map fun k => .tup (k.map .int))]) := by
  simp only [bltop, e, e0, e2, wp_alloc]
theorem b_sortI {n : Nat} {l : List D} {ns : List Int} (e : h[n]? = some (.lst l)) (e2 : intsD l = some ns) : Wp (bltop .sorted [.ref n] h) V X ↔ V (.ref h.length) (h ++ [.lst ((sortB leI ns).map .int)]) := by
  simp only [bltop, e, e2, wp_alloc]
theorem b_sortD {n : Nat} {l : List (D × D)} {ns : List Int} (e : h[n]? = some (.dct l)) (e2 : ikeys l = some ns) (hz : ns.length < 64) : Wp (bltop .sorted [.ref n] h) V X ↔ V (.ref h.length) (h ++ [.lst ((sortB leI ns).map .int)]) := by
  simp only [bltop, e, e2, if_pos hz, wp_alloc]
theorem b_tzipop {n m : Nat} {a b : List D} (e1 : h[n]? = some (.lst a)) (e2 : h[m]? = some (.lst b)) (hl : a.length = b.length) : Wp (tzipop (.ref n) (.ref m) h) V X ↔ V (.tup (zipD a b)) h := by
  simp only [tzipop, e1, e2, if_pos hl]
  exact Iff.rfl
theorem b_sset {x : D} {l : List D} {ns : List Int} (e : seqOf h x = some l) (e2 : intsD l = some ns) (hz : ns.length < 64) : Wp (ssetop x h) V X ↔ V (.ref h.length) (h ++ [.lst ((sortU ns).map .int)]) := by
  simp only [ssetop, e, e2, if_pos hz, wp_alloc]
theorem o_repl {a : Nat} {j : Int} {xs : List D} (e : h[a]? = some (.lst xs)) (hz : xs.length * j.toNat ≤ SZ) (h1 : -(2 ^ 63) ≤ j) (h2 : j < 2 ^ 63) : Wp (binop .Mult (.ref a) (.int j) h) V X ↔ V (.ref h.length) (h ++ [.lst (repL xs j)]) := by
  simp only [binop, e, if_pos (show xs.length * j.toNat ≤ SZ ∧ -(2 ^ 63) ≤ j ∧ j < 2 ^ 63 from ⟨hz, h1, h2⟩), wp_alloc]
@[simp] theorem o_reps {a : Nm} {j : Int} : Wp (binop .Mult (.str a) (.int j) h) V X ↔ (a.length ≤ 1000 ∧ 1 ≤ j ∧ j ≤ 1000) ∧ V (.str (repL a j)) h := by
  unfold binop; dsimp only; by_cases q : a.length ≤ 1000 ∧ 1 ≤ j ∧ j ≤ 1000
  · rw [if_pos q]; simp [q]
  · rw [if_neg q]; simp [q]
end
/-! ### walks -/
section
variable {cl : Fid → List D → Hh → Res D} {tb : Tb} {Q : Fl × Sg → Hh → Prop} {X : XX} {sg : Sg} {h : Hh} {t : T} {b : List S}
theorem wk_pur {l : List D} (I : Nat → Sg → Hh → Prop) (h0 : I 0 sg h)
    (step : ∀ i x sg h, l[i]? = some x → I i sg h → Wp (tg cl tb t x sg h) (fun sg h => Wp (xss cl tb b sg h) (TurnQ (I (i + 1)) Q) X) (fun _ _ _ => False)) (fin : ∀ sg h, I l.length sg h → Q (.nx, sg) h) : Wp (walkB cl tb t b (.pur l) sg h) Q X := by
  refine wp_turns I h0 (fun i x sg h e hI => ?_) fin
  unfold turnB
  rw [wp_st]
  exact wp_mono (step i x sg h e hI) (fun _ _ q => q) fun _ _ _ z => False.elim z
theorem wk_rng {v : Nat} {a n : Int} (I : Int → Sg → Hh → Prop) (h0 : I a sg h) (hn : ∀ sg h i, I i sg h → v < sg.length)
    (step : ∀ i sg h, a ≤ i → i < n → I i sg h → Wp (xss cl tb b (sg.set v (some (.int i))) h) (TurnQ (I (i + 1)) Q) X) (fin : ∀ sg h, (a ≤ n → I n sg h) → (n < a → I a sg h) → Q (.nx, sg) h) : Wp (walkB cl tb (.nm v) b (.pur (rngL a n)) sg h) Q X := by
  refine wk_pur (fun j sg h => I (a + j) sg h) (by simpa using h0) (fun j x sg h e hI => ?_) fun sg h hI => ?_
  · unfold rngL at e
    rw [List.getElem?_map] at e
    have hj : j < (n - a).toNat := by
      by_cases q : j < (n - a).toNat
      · exact q
      · rw [List.getElem?_eq_none (by simpa using q)] at e; cases e
    rw [List.getElem?_range hj] at e
    cases e
    rw [t_nm]
    refine ⟨hn _ _ _ hI, ?_⟩
    have := step (a + j) sg h (by omega) (by omega) hI
    have e2 : a + (j : Int) + 1 = a + ((j + 1 : Nat) : Int) := by omega
    rw [e2] at this
    exact this
  · have e1 : (rngL a n).length = (n - a).toNat := by simp [rngL]
    rw [e1] at hI
    refine fin sg h (fun q => ?_) (fun q => ?_)
    · have : a + ((n - a).toNat : Int) = n := by omega
      rw [this] at hI; exact hI
    · have : a + ((n - a).toNat : Int) = a := by omega
      rw [this] at hI; exact hI
theorem wk_lst {n : Nat} {l : List D} (e : h[n]? = some (.lst l)) (I : Nat → Sg → Hh → Prop) (h0 : I 0 sg h) (hl : ∀ i sg h, I i sg h → h[n]? = some (.lst l))
    (step : ∀ i x sg h, l[i]? = some x → I i sg h → Wp (tg cl tb t x sg h) (fun sg h => Wp (xss cl tb b sg h) (TurnQ (I (i + 1)) Q) X) (fun _ _ _ => False)) (fin : ∀ sg h, I l.length sg h → Q (.nx, sg) h) : Wp (walkB cl tb t b (.lst n) sg h) Q X := by
  unfold walkB
  dsimp only
  rw [e]
  refine wp_turnsL I hl (fun i x sg h e hI => ?_) fin (l.length + 1) 0 sg h (by omega) (Nat.zero_le _) h0
  unfold turnB
  rw [wp_st]
  exact wp_mono (step i x sg h e hI) (fun _ _ q => q) fun _ _ _ z => False.elim z
theorem wk_while {c : E} {b : List S} (I : Nat → Sg → Hh → Prop) {m : Nat} (hm : m < 1000000000000) (h0 : I m sg h)
    (step : ∀ m sg h, I m sg h → Wp (et cl tb c sg h) (fun t h1 => if t = true then Wp (xss cl tb b sg h1) (TurnQ (fun sg h => ∃ m', m' < m ∧ I m' sg h) Q) X else Q (.nx, sg) h1) (fun c fs h => Q (.exc c fs, sg) h)) :
    Wp (rounds (et cl tb c) (xss cl tb b) FUEL sg h) Q X := wp_rounds I step FUEL m sg h hm h0
/-! comprehensions -/
variable {vs : List Nat} {c : Option E} {e : E} {V : D → Hh → Prop}
theorem cp_map {l : List D} (f : D → Option D) (hz : l.length ≤ SZ) (hl : ∀ x ∈ l, Wp (tg cl tb t x (wipes sg vs) h) (fun sg2 h2 => Wp (evc cl tb c sg2 h2) (fun b h3 => if b = true then Wp (ev cl tb e sg2 h3) (fun v h4 => h4 = h ∧ f x = some v) (fun _ _ _ => False) else h3 = h ∧ f x = none) (fun _ _ _ => False)) (fun _ _ _ => False)) :
    ∀ x ∈ l, compB cl tb vs t c e sg x h = .ok (f x) h := by
  intro x hx
  have w := hl x hx
  obtain ⟨sg2, h2, e1, w⟩ := wp_eq w
  obtain ⟨bb, h3, e2, w⟩ := wp_eq w
  unfold compB
  rw [e1, Res.bind_ok, e2, Res.bind_ok]
  cases bb with
  | false =>
    have w : h3 = h ∧ f x = none := w
    rw [w.1, w.2]
    rfl
  | true =>
    have w : Wp _ _ _ := w
    obtain ⟨v, h4, e3, w⟩ := wp_eq w
    simp only [if_true]
    rw [e3, Res.bind_ok, w.1, w.2]
    rfl
theorem cr_pur {l : List D} (f : D → Option D) (hz : l.length ≤ SZ) (hl : ∀ x ∈ l, Wp (tg cl tb t x (wipes sg vs) h) (fun sg2 h2 => Wp (evc cl tb c sg2 h2) (fun b h3 => if b = true then Wp (ev cl tb e sg2 h3) (fun v h4 => h4 = h ∧ f x = some v) (fun _ _ _ => False) else h3 = h ∧ f x = none) (fun _ _ _ => False)) (fun _ _ _ => False))
    (q : V (.ref h.length) (h ++ [.lst (l.filterMap f)])) : Wp (compR cl tb vs t c e (.pur l) sg h) V X := by
  unfold compR
  dsimp only
  rw [cturns_map f (cp_map f hz hl) (by simpa using hz), Res.bind_ok]
  simpa using q
theorem cr_lst {n : Nat} {l : List D} (hn : h[n]? = some (.lst l)) (f : D → Option D) (hz : l.length ≤ SZ) (hl : ∀ x ∈ l, Wp (tg cl tb t x (wipes sg vs) h) (fun sg2 h2 => Wp (evc cl tb c sg2 h2) (fun b h3 => if b = true then Wp (ev cl tb e sg2 h3) (fun v h4 => h4 = h ∧ f x = some v) (fun _ _ _ => False) else h3 = h ∧ f x = none) (fun _ _ _ => False)) (fun _ _ _ => False))
    (q : V (.ref h.length) (h ++ [.lst (l.filterMap f)])) : Wp (compR cl tb vs t c e (.lst n) sg h) V X := by
  unfold compR
  dsimp only
  rw [hn]
  dsimp only
  rw [cturnsL_map f hn (cp_map f hz hl) (l.length + 1) 0 [] (by omega) (Nat.zero_le _) (by simpa using hz), Res.bind_ok]
  simpa using q
/-- elements that turn the heap -/
theorem cr_pur_I {l : List D} (I : Nat → List D → Hh → Prop) (h0 : I 0 [] h) (hz : l.length ≤ SZ)
    (step : ∀ i x acc h, l[i]? = some x → I i acc h → Wp (tg cl tb t x (wipes sg vs) h) (fun sg2 h2 => Wp (evc cl tb c sg2 h2) (fun b h3 => if b = true then Wp (ev cl tb e sg2 h3) (fun v h4 => I (i + 1) (acc ++ [v]) h4) (fun _ _ _ => False) else I (i + 1) acc h3) (fun _ _ _ => False)) (fun _ _ _ => False))
    (fin : ∀ acc h, I l.length acc h → V (.ref h.length) (h ++ [.lst acc])) : Wp (compR cl tb vs t c e (.pur l) sg h) V X := by
  unfold compR
  dsimp only
  rw [wp_bind]
  refine wp_cturns I h0 (by simpa using hz) (fun i x acc h e1 hI => ?_) fun acc h hI => fin acc h hI
  unfold compB
  refine wp_calm ?_
  rw [wp_bind]
  refine wp_and (step i x acc h e1 hI) fun sg2 h2 w => ?_
  rw [wp_bind]
  refine wp_and w fun b h3 w => ?_
  cases b with
  | false => exact w
  | true =>
    show Wp (Res.bind _ _) _ _
    rw [wp_bind]
    exact wp_and w fun v h4 w => w
theorem cr_lst_I {n : Nat} {l : List D} (I : Nat → List D → Hh → Prop) (hn : ∀ i a h, I i a h → h[n]? = some (.lst l)) (h0 : I 0 [] h) (hz : l.length ≤ SZ)
    (step : ∀ i x acc h, l[i]? = some x → I i acc h → Wp (tg cl tb t x (wipes sg vs) h) (fun sg2 h2 => Wp (evc cl tb c sg2 h2) (fun b h3 => if b = true then Wp (ev cl tb e sg2 h3) (fun v h4 => I (i + 1) (acc ++ [v]) h4) (fun _ _ _ => False) else I (i + 1) acc h3) (fun _ _ _ => False)) (fun _ _ _ => False))
    (fin : ∀ acc h, I l.length acc h → V (.ref h.length) (h ++ [.lst acc])) : Wp (compR cl tb vs t c e (.lst n) sg h) V X := by
  unfold compR
  dsimp only
  rw [hn 0 [] h h0]
  dsimp only
  rw [wp_bind]
  refine wp_cturnsL I hn (fun i x acc h e1 hI => ?_) (fun acc h hI => fin acc h hI) (l.length + 1) 0 [] h (by omega) (Nat.zero_le _) (by simpa using hz) h0
  unfold compB
  refine wp_calm ?_
  rw [wp_bind]
  refine wp_and (step i x acc h e1 hI) fun sg2 h2 w => ?_
  rw [wp_bind]
  refine wp_and w fun b h3 w => ?_
  cases b with
  | false => exact w
  | true =>
    show Wp (Res.bind _ _) _ _
    rw [wp_bind]
    exact wp_and w fun v h4 w => w
end
/-! ### the heap -/
theorem get_app {h : Hh} {n : Nat} {o : O} (l : List O) (e : h[n]? = some o) : (h ++ l)[n]? = some o := by
  rw [List.getElem?_append_left (List.getElem?_eq_some_iff.mp e).1]; exact e
theorem get_new {h : Hh} {o : O} : (h ++ [o])[h.length]? = some o := by simp
theorem get_set {h : Hh} {n : Nat} {o u : O} (e : h[n]? = some u) : (h.set n o)[n]? = some o := List.getElem?_set_self (List.getElem?_eq_some_iff.mp e).1
theorem get_ne {h : Hh} {n m : Nat} {o : O} (e : n ≠ m) : (h.set n o)[m]? = h[m]? := List.getElem?_set_ne e
theorem lt_of {h : Hh} {n : Nat} {o : O} (e : h[n]? = some o) : n < h.length := (List.getElem?_eq_some_iff.mp e).1
/-- only the places at S changed, and new ones came -/
structure Fr (S : Nat → Prop) (h h' : Hh) : Prop where
  le : h.length ≤ h'.length
  eq : ∀ n, n < h.length → ¬ S n → h'[n]? = h[n]?
theorem Fr.refl {S : Nat → Prop} {h : Hh} : Fr S h h := ⟨Nat.le_refl _, fun _ _ _ => rfl⟩
theorem Fr.trans {S : Nat → Prop} {h1 h2 h3 : Hh} (a : Fr S h1 h2) (b : Fr S h2 h3) : Fr S h1 h3 := ⟨Nat.le_trans a.le b.le, fun n hn hs => (b.eq n (Nat.lt_of_lt_of_le hn a.le) hs).trans (a.eq n hn hs)⟩
theorem Fr.mono {S T : Nat → Prop} {h1 h2 : Hh} (a : Fr S h1 h2) (st : ∀ n, n < h1.length → S n → T n) : Fr T h1 h2 := ⟨a.le, fun n hn hs => a.eq n hn fun z => hs (st n hn z)⟩
theorem Fr.app {S : Nat → Prop} {h : Hh} (l : List O) : Fr S h (h ++ l) := ⟨by simp, fun n hn _ => List.getElem?_append_left hn⟩
theorem Fr.set {S : Nat → Prop} {h : Hh} {n : Nat} {o : O} (hn : S n) : Fr S h (h.set n o) := ⟨by simp, fun m _ hs => List.getElem?_set_ne fun e => hs (by rw [← e]; exact hn)⟩
theorem Fr.get {S : Nat → Prop} {h h' : Hh} {n : Nat} {o : O} (a : Fr S h h') (e : h[n]? = some o) (hs : ¬ S n) : h'[n]? = some o := (a.eq n (lt_of e) hs).trans e
/-! ### slices -/
theorem cutL_from {α : Type} (l : List α) (n : Nat) : cutL l (some (n : Int)) none = l.drop n := by
  unfold cutL
  rw [HT.sIx_nat, HT.sIx_none]
  by_cases q : n ≤ l.length
  · rw [Nat.min_eq_left q, List.take_of_length_le (by simp)]
  · rw [Nat.min_eq_right (by omega)]
    simp
    omega
theorem cutL_to {α : Type} (l : List α) (n : Nat) : cutL l none (some (n : Int)) = l.take n := by
  unfold cutL
  rw [HT.sIx_nat, HT.sIx_none]
  simp
theorem cutL_all {α : Type} (l : List α) : cutL l none none = l := by
  unfold cutL
  rw [HT.sIx_none, HT.sIx_none]
  simp
section
variable {V : D → Hh → Prop} {X : XX} {h : Hh}
theorem s_lst {n : Nat} {l : List D} {lo hi : Option Int} (e : h[n]? = some (.lst l)) : Wp (slice (.ref n) lo hi h) V X ↔ V (.ref h.length) (h ++ [.lst (cutL l lo hi)]) := by simp [slice, e]
@[simp] theorem s_str {s : Nm} {lo hi : Option Int} : Wp (slice (.str s) lo hi h) V X ↔ V (.str (cutL s lo hi)) h := Iff.rfl
@[simp] theorem s_tup {s : List D} {lo hi : Option Int} : Wp (slice (.tup s) lo hi h) V X ↔ V (.tup (cutL s lo hi)) h := Iff.rfl
@[simp] theorem s_rol {s : List D} {lo hi : Option Int} : Wp (slice (.rol s) lo hi h) V X ↔ V (.ref h.length) (h ++ [.lst (cutL s lo hi)]) := Iff.rfl
end
/-! ### a value is equal to itself -/
def okH : Nat → D → Bool
  | _, .non => true
  | _, .bl _ => true
  | _, .int _ => true
  | _, .str _ => true
  | 0, _ => false
  | n + 1, .tup l => l.all (okH n)
  | _ + 1, _ => false
theorem eqv_str (s : Str) : PyData.eqv (.str s) (.str s) = true := by
  unfold PyData.eqv
  simp
theorem pyH_refl {h : Hh} : ∀ (n : Nat) (d : D), okH n d = true → ∃ p, pyH n h d = some p ∧ PyData.eqv p p = true
  | n, .non, _ => ⟨.none, by cases n <;> rfl, rfl⟩
  | n, .bl b, _ => ⟨.bool b, by cases n <;> rfl, by cases b <;> rfl⟩
  | n, .int i, _ => ⟨.int i, by cases n <;> rfl, by unfold PyData.eqv; simp⟩
  | n, .str s, _ => ⟨.str (toS s), by cases n <;> rfl, eqv_str _⟩
  | 0, .tup l, e => by cases e
  | n + 1, .tup l, e => by
    have e : l.all (okH n) = true := e
    have : ∀ l : List D, l.all (okH n) = true → ∃ ps, mapO (pyH n h) l = some ps ∧ PyData.eqvAll ps ps = true := by
      intro l
      induction l with
      | nil => intro _; exact ⟨[], rfl, rfl⟩
      | cons x r ih =>
        intro z
        rw [List.all_cons, Bool.and_eq_true] at z
        obtain ⟨p, h1, h2⟩ := pyH_refl n x z.1
        obtain ⟨ps, h3, h4⟩ := ih z.2
        refine ⟨p :: ps, ?_, ?_⟩
        · unfold mapO
          rw [h1, h3]
        · unfold PyData.eqvAll
          rw [h2, h4] <;> rfl
    obtain ⟨ps, h1, h2⟩ := this l e
    refine ⟨.tuple ps, ?_, ?_⟩
    · show (match mapO (pyH n h) l with | some ps => some (PyData.tuple ps) | none => none) = _
      rw [h1]
    · unfold PyData.eqv
      exact h2
  | 0, .rol l, e => by cases e
  | n + 1, .rol l, e => by cases e
  | 0, .ref l, e => by cases e
  | n + 1, .ref l, e => by cases e
theorem eqD_refl {h : Hh} {d : D} (e : okH 64 d = true) : eqD h d d = some true := by
  obtain ⟨p, h1, h2⟩ := pyH_refl (h := h) 64 d e
  unfold eqD
  rw [h1]
  show some (PyData.eqv p p) = _
  rw [h2]
@[simp] theorem SZ_val : SZ = 16777216 := rfl
end Z

/-! ZN: equality of lists, plain Lean. -/
namespace Z
open PySem
theorem okH_mono : ∀ (n : Nat) (d : D), okH n d = true → okH (n + 1) d = true
  | _, .non, _ => rfl
  | _, .bl _, _ => rfl
  | _, .int _, _ => rfl
  | _, .str _, _ => rfl
  | 0, .tup l, h => by cases h
  | 0, .rol l, h => by cases h
  | 0, .ref l, h => by cases h
  | n + 1, .tup l, h => by
    have h : l.all (okH n) = true := h
    show l.all (okH (n + 1)) = true
    rw [List.all_eq_true] at h ⊢
    exact fun x hx => okH_mono n x (h x hx)
  | n + 1, .rol l, h => by cases h
  | n + 1, .ref l, h => by cases h
theorem okH_le {n m : Nat} {d : D} (h : okH n d = true) (e : n ≤ m) : okH m d = true := by
  induction e with
  | refl => exact h
  | step _ ih => exact okH_mono _ _ ih
theorem pyH_all {h : Hh} {n : Nat} : ∀ {l : List D}, (∀ d ∈ l, okH n d = true) → ∃ ps, mapO (pyH n h) l = some ps ∧ ps.length = l.length ∧ PyData.eqvAll ps ps = true
  | [], _ => ⟨[], rfl, rfl, rfl⟩
  | x :: r, e => by
    obtain ⟨p, h1, h2⟩ := pyH_refl (h := h) n x (e x List.mem_cons_self)
    obtain ⟨ps, h3, h4, h5⟩ := pyH_all (h := h) (l := r) fun d hd => e d (List.mem_cons_of_mem _ hd)
    refine ⟨p :: ps, ?_, by simp [h4], ?_⟩
    · unfold mapO
      rw [h1, h3]
    · unfold PyData.eqvAll
      rw [h2, h5] <;> rfl
theorem q_nil {h : Hh} {n m : Nat} {l : List D} (e1 : h[n]? = some (.lst l)) (e2 : h[m]? = some (.lst [])) (ok : ∀ d ∈ l, okH 63 d = true) : eqD h (.ref n) (.ref m) = some l.isEmpty := by
  obtain ⟨ps, h1, h2, _⟩ := pyH_all (h := h) ok
  unfold eqD
  have a : pyH 64 h (.ref n) = some (.list ps) := by
    simp only [pyH, e1, h1]
  have b : pyH 64 h (.ref m) = some (.list []) := by
    simp only [pyH, e2, mapO]
  rw [a, b]
  show some (PyData.eqv _ _) = _
  cases ps with
  | nil => cases l with
    | nil => rfl
    | cons _ _ => cases h2
  | cons p ps => cases l with
    | nil => cases h2
    | cons _ _ => rfl
/-- two lists of the same values -/
theorem q_lst {h : Hh} {n m : Nat} {l : List D} (e1 : h[n]? = some (.lst l)) (e2 : h[m]? = some (.lst l)) (ok : ∀ d ∈ l, okH 63 d = true) : eqD h (.ref n) (.ref m) = some true := by
  obtain ⟨ps, h1, h2, h3⟩ := pyH_all (h := h) ok
  unfold eqD
  have a : pyH 64 h (.ref n) = some (.list ps) := by
    simp only [pyH, e1, h1]
  have b : pyH 64 h (.ref m) = some (.list ps) := by
    simp only [pyH, e2, h1]
  rw [a, b]
  show some (PyData.eqv _ _) = _
  unfold PyData.eqv
  rw [h3]
end Z

namespace Zl
open PySem PySem.Spec Z L2
def top (i : Nat) : Stmt := PySem.Challenge.pw_tapline_k60_the_machine_pick_by_pick.main.body.getD i (.Pass ⟨0, 0, 0, 0⟩)
def inCls (s : Stmt) (j : Nat) : Stmt := match s with
  | .ClassDef _ _ _ b _ _ _ _ _ _ _ => b.getD j (.Pass ⟨0, 0, 0, 0⟩)
  | s => s
/-- Thread.__init__: 0 self, 1 pid, 2 pc, 3 first -/
def F0 : Fn := ⟨4, 4, [], [(.asg (.fld (.var 0) [112, 105, 100]) (.var 1)),
    (.asg (.fld (.var 0) [112, 99]) (.var 2)),
    (.asg (.fld (.var 0) [114, 101, 103, 115]) (.lst [(.var 3), (.cst (.int 0)), (.cst (.int 0)), (.cst (.int 0))])),
    (.asg (.fld (.var 0) [99, 111, 110, 100, 105, 116, 105, 111, 110]) (.cst (.tup [(.str [114, 101, 97, 100, 121])]))),
    (.asg (.fld (.var 0) [99, 97, 108, 108]) (.tup [(.cst (.int 0)), (.cst (.int 0))]))]⟩
def d0 : PDef := ⟨([84, 104, 114, 101, 97, 100], [95, 95, 105, 110, 105, 116, 95, 95]), F0, (inCls (top 7) 0), ["self", "pid", "pc", "first"], ["self", "pid", "pc", "first"], []⟩
/-- Machine.__init__: 0 self, 1 programs, 2 rates, 3 pid, 4 program -/
def X1_0 : E := (.bin .Add (.blt .list [(.var 4)]) (.bin .Mult (.lst [(.cst (.int 0))]) (.bin .Sub (.cst (.int 256)) (.blt .len [(.var 4)]))))
def B1_1 : List S := [(.ex (.mth (.var 0) [98, 101, 103, 105, 110, 95, 116, 104, 114, 101, 97, 100] [(.var 3), (.cst (.int 0)), (.cst (.int 0))]))]
def F1 : Fn := ⟨3, 5, [], [(.asg (.fld (.var 0) [109, 101, 109, 111, 114, 105, 101, 115]) (.comp [4] (.nm 4) (.seq (.var 1)) none X1_0)),
    (.asg (.fld (.var 0) [114, 97, 116, 101, 115]) (.var 2)),
    (.asg (.fld (.var 0) [116, 105, 109, 101, 115]) (.bin .Mult (.lst [(.cst (.int 0))]) (.blt .len [(.var 2)]))),
    (.asg (.fld (.var 0) [114, 117, 110, 110, 105, 110, 103]) (.bin .Mult (.lst [(.neg (.cst (.int 1)))]) (.blt .len [(.var 2)]))),
    (.asg (.fld (.var 0) [116, 104, 114, 101, 97, 100, 115]) (.lst [])),
    (.asg (.fld (.var 0) [114, 101, 97, 100, 121]) (.lst [])),
    (.asg (.fld (.var 0) [118, 97, 108, 117, 101]) (.cst (.int 0))),
    (.asg (.fld (.var 0) [114, 101, 113, 117, 101, 115, 116, 115]) (.lst [])),
    (.asg (.fld (.var 0) [118, 105, 101, 119, 115]) (.lst [])),
    (.each (.nm 3) (.rng1 (.blt .len [(.var 1)])) B1_1)]⟩
def d1 : PDef := ⟨([77, 97, 99, 104, 105, 110, 101], [95, 95, 105, 110, 105, 116, 95, 95]), F1, (inCls (top 8) 0), ["self", "programs", "rates", "pid", "program"], ["self", "programs", "rates"], []⟩
/-- Machine.state: 0 self, 1 memories, 2 threads, 3 processors, 4 pid, 5 one -/
def X2_0 : E := (.blt .tuple [(.mth (.var 0) [109, 101, 109, 111, 114, 121] [(.var 4)])])
def X2_1 : E := (.tup [(.fld (.var 5) [112, 105, 100]), (.fld (.var 5) [112, 99]), (.blt .tuple [(.fld (.var 5) [114, 101, 103, 115])]), (.fld (.var 5) [99, 111, 110, 100, 105, 116, 105, 111, 110])])
def F2 : Fn := ⟨1, 6, [], [(.asg (.nm 1) (.blt .tuple [(.comp [4] (.nm 4) (.rng1 (.blt .len [(.fld (.var 0) [109, 101, 109, 111, 114, 105, 101, 115])])) none X2_0)])),
    (.asg (.nm 2) (.blt .tuple [(.comp [5] (.nm 5) (.seq (.fld (.var 0) [116, 104, 114, 101, 97, 100, 115])) none X2_1)])),
    (.asg (.nm 3) (.tzip [(.fld (.var 0) [116, 105, 109, 101, 115]), (.fld (.var 0) [114, 117, 110, 110, 105, 110, 103])])),
    (.ret (.tup [(.var 1), (.var 2), (.blt .tuple [(.fld (.var 0) [114, 101, 97, 100, 121])]), (.var 3), (.tup [(.fld (.var 0) [118, 97, 108, 117, 101]), (.blt .tuple [(.fld (.var 0) [114, 101, 113, 117, 101, 115, 116, 115])])])]))]⟩
def d2 : PDef := ⟨([77, 97, 99, 104, 105, 110, 101], [115, 116, 97, 116, 101]), F2, (inCls (top 8) 1), ["self", "memories", "threads", "processors", "pid", "one"], ["self"], []⟩
/-- Machine.memory: 0 self, 1 pid -/
def F3 : Fn := ⟨2, 2, [], [(.ret (.idx (.fld (.var 0) [109, 101, 109, 111, 114, 105, 101, 115]) (.var 1)))]⟩
def d3 : PDef := ⟨([77, 97, 99, 104, 105, 110, 101], [109, 101, 109, 111, 114, 121]), F3, (inCls (top 8) 2), ["self", "pid"], ["self", "pid"], []⟩
/-- Machine.byte: 0 self, 1 pid, 2 at -/
def F4 : Fn := ⟨3, 3, [], [(.ret (.idx (.idx (.fld (.var 0) [109, 101, 109, 111, 114, 105, 101, 115]) (.var 1)) (.bin .Mod (.blt .int [(.var 2)]) (.cst (.int 256)))))]⟩
def d4 : PDef := ⟨([77, 97, 99, 104, 105, 110, 101], [98, 121, 116, 101]), F4, (inCls (top 8) 3), ["self", "pid", "at"], ["self", "pid", "at"], []⟩
/-- Machine.put_byte: 0 self, 1 pid, 2 at, 3 byte -/
def F5 : Fn := ⟨4, 4, [], [(.asg (.ix (.idx (.fld (.var 0) [109, 101, 109, 111, 114, 105, 101, 115]) (.var 1)) (.bin .Mod (.blt .int [(.var 2)]) (.cst (.int 256)))) (.var 3))]⟩
def d5 : PDef := ⟨([77, 97, 99, 104, 105, 110, 101], [112, 117, 116, 95, 98, 121, 116, 101]), F5, (inCls (top 8) 4), ["self", "pid", "at", "byte"], ["self", "pid", "at", "byte"], []⟩
/-- Machine.is_told: 0 self, 1 pid, 2 at -/
def F6 : Fn := ⟨3, 3, [], [(.ret (.and (.cmp .GtE (.var 2) (.cst (.int 0))) (.cmp .GtE (.var 1) (.cst (.int 0)))))]⟩
def d6 : PDef := ⟨([77, 97, 99, 104, 105, 110, 101], [105, 115, 95, 116, 111, 108, 100]), F6, (inCls (top 8) 5), ["self", "pid", "at"], ["self", "pid", "at"], []⟩
/-- Machine.tell: 0 self, 1 kind, 2 cpu, 3 tid, 4 at, 5 args, 6 pid, 7 regs, 8 memory -/
def F7 : Fn := ⟨6, 9, [], [(.asg (.nm 6) (.neg (.cst (.int 1)))),
    (.asg (.nm 7) (.tup [(.cst (.int 0)), (.cst (.int 0)), (.cst (.int 0)), (.cst (.int 0))])),
    (.asg (.nm 8) (.tup [])),
    (.ite (.cmp .GtE (.var 3) (.cst (.int 0))) [(.asg (.nm 6) (.fld (.idx (.fld (.var 0) [116, 104, 114, 101, 97, 100, 115]) (.var 3)) [112, 105, 100])), (.asg (.nm 7) (.blt .tuple [(.fld (.idx (.fld (.var 0) [116, 104, 114, 101, 97, 100, 115]) (.var 3)) [114, 101, 103, 115])])), (.asg (.nm 8) (.blt .tuple [(.mth (.var 0) [109, 101, 109, 111, 114, 121] [(.var 6)])]))] []),
    (.ex (.mth (.fld (.var 0) [118, 105, 101, 119, 115]) [97, 112, 112, 101, 110, 100] [(.tup [(.tup [(.var 1), (.var 2), (.idx (.fld (.var 0) [116, 105, 109, 101, 115]) (.var 2)), (.var 6), (.var 3), (.var 4), (.var 5)]), (.var 7), (.var 8)])]))]⟩
def d7 : PDef := ⟨([77, 97, 99, 104, 105, 110, 101], [116, 101, 108, 108]), F7, (inCls (top 8) 6), ["self", "kind", "cpu", "tid", "at", "args", "pid", "regs", "memory"], ["self", "kind", "cpu", "tid", "at", "args"], []⟩
/-- Machine.begin_thread: 0 self, 1 pid, 2 pc, 3 first -/
def F8 : Fn := ⟨4, 4, [], [(.ex (.mth (.fld (.var 0) [116, 104, 114, 101, 97, 100, 115]) [97, 112, 112, 101, 110, 100] [(.make [84, 104, 114, 101, 97, 100] ([84, 104, 114, 101, 97, 100], [95, 95, 105, 110, 105, 116, 95, 95]) [(.var 1), (.var 2), (.var 3)])])),
    (.ex (.mth (.fld (.var 0) [114, 101, 97, 100, 121]) [97, 112, 112, 101, 110, 100] [(.bin .Sub (.blt .len [(.fld (.var 0) [116, 104, 114, 101, 97, 100, 115])]) (.cst (.int 1)))])),
    (.ret (.bin .Sub (.blt .len [(.fld (.var 0) [116, 104, 114, 101, 97, 100, 115])]) (.cst (.int 1))))]⟩
def d8 : PDef := ⟨([77, 97, 99, 104, 105, 110, 101], [98, 101, 103, 105, 110, 95, 116, 104, 114, 101, 97, 100]), F8, (inCls (top 8) 7), ["self", "pid", "pc", "first"], ["self", "pid", "pc", "first"], []⟩
/-- Machine.leave: 0 self, 1 cpu, 2 tid, 3 condition, 4 reason, 5 thread -/
def F9 : Fn := ⟨5, 6, [], [(.asg (.nm 5) (.idx (.fld (.var 0) [116, 104, 114, 101, 97, 100, 115]) (.var 2))),
    (.asg (.fld (.var 5) [99, 111, 110, 100, 105, 116, 105, 111, 110]) (.var 3)),
    (.asg (.ix (.fld (.var 0) [114, 117, 110, 110, 105, 110, 103]) (.var 1)) (.neg (.cst (.int 1)))),
    (.ite (.cmp .Eq (.var 3) (.cst (.tup [(.str [114, 101, 97, 100, 121])]))) [(.ex (.mth (.fld (.var 0) [114, 101, 97, 100, 121]) [97, 112, 112, 101, 110, 100] [(.var 2)]))] []),
    (.ex (.mth (.var 0) [116, 101, 108, 108] [(.cst (.str [111, 102, 102])), (.var 1), (.var 2), (.fld (.var 5) [112, 99]), (.tup [(.var 4)])]))]⟩
def d9 : PDef := ⟨([77, 97, 99, 104, 105, 110, 101], [108, 101, 97, 118, 101]), F9, (inCls (top 8) 8), ["self", "cpu", "tid", "condition", "reason", "thread"], ["self", "cpu", "tid", "condition", "reason"], []⟩
/-- Machine.give_back: 0 self, 1 cpu, 2 tid, 3 result, 4 thread -/
def F10 : Fn := ⟨4, 5, [], [(.asg (.nm 4) (.idx (.fld (.var 0) [116, 104, 114, 101, 97, 100, 115]) (.var 2))),
    (.asg (.ix (.fld (.var 4) [114, 101, 103, 115]) (.cst (.int 0))) (.var 3)),
    (.ex (.mth (.var 0) [116, 101, 108, 108] [(.cst (.str [114, 101, 116, 117, 114, 110])), (.var 1), (.var 2), (.idx (.fld (.var 4) [99, 97, 108, 108]) (.cst (.int 1))), (.tup [(.idx (.fld (.var 4) [99, 97, 108, 108]) (.cst (.int 0))), (.var 3)])])),
    (.ite (.cmp .NotEq (.idx (.fld (.var 4) [99, 111, 110, 100, 105, 116, 105, 111, 110]) (.cst (.int 0))) (.cst (.str [114, 117, 110, 110, 105, 110, 103]))) [(.asg (.fld (.var 4) [99, 111, 110, 100, 105, 116, 105, 111, 110]) (.cst (.tup [(.str [114, 101, 97, 100, 121])]))), (.ex (.mth (.fld (.var 0) [114, 101, 97, 100, 121]) [97, 112, 112, 101, 110, 100] [(.var 2)]))] [])]⟩
def d10 : PDef := ⟨([77, 97, 99, 104, 105, 110, 101], [103, 105, 118, 101, 95, 98, 97, 99, 107]), F10, (inCls (top 8) 9), ["self", "cpu", "tid", "result", "thread"], ["self", "cpu", "tid", "result"], []⟩
/-- Machine.end_thread: 0 self, 1 cpu, 2 tid, 3 at, 4 code, 5 other -/
def B11_0 : List S := [(.ite (.cmp .Eq (.fld (.idx (.fld (.var 0) [116, 104, 114, 101, 97, 100, 115]) (.var 5)) [99, 111, 110, 100, 105, 116, 105, 111, 110]) (.tup [(.cst (.str [119, 97, 105, 116, 105, 110, 103])), (.var 2)])) [(.ex (.mth (.var 0) [103, 105, 118, 101, 95, 98, 97, 99, 107] [(.var 1), (.var 5), (.var 4)]))] [])]
def F11 : Fn := ⟨5, 6, [], [(.ex (.mth (.var 0) [116, 101, 108, 108] [(.cst (.str [101, 110, 100])), (.var 1), (.var 2), (.var 3), (.tup [(.var 4)])])),
    (.asg (.fld (.idx (.fld (.var 0) [116, 104, 114, 101, 97, 100, 115]) (.var 2)) [99, 111, 110, 100, 105, 116, 105, 111, 110]) (.tup [(.cst (.str [101, 110, 100, 101, 100])), (.var 4)])),
    (.asg (.ix (.fld (.var 0) [114, 117, 110, 110, 105, 110, 103]) (.var 1)) (.neg (.cst (.int 1)))),
    (.each (.nm 5) (.rng1 (.blt .len [(.fld (.var 0) [116, 104, 114, 101, 97, 100, 115])])) B11_0)]⟩
def d11 : PDef := ⟨([77, 97, 99, 104, 105, 110, 101], [101, 110, 100, 95, 116, 104, 114, 101, 97, 100]), F11, (inCls (top 8) 10), ["self", "cpu", "tid", "at", "code", "other"], ["self", "cpu", "tid", "at", "code"], []⟩
/-- Machine.step: 0 self, 1 pick, 2 tid, 3 cpu, 4 what, 5 condition -/
def B12_0 : List S := [(.asg (.nm 5) (.fld (.idx (.fld (.var 0) [116, 104, 114, 101, 97, 100, 115]) (.var 2)) [99, 111, 110, 100, 105, 116, 105, 111, 110])), (.ite (.and (.cmp .Eq (.sli (.var 5) none (some (.cst (.int 2)))) (.tup [(.cst (.str [115, 108, 101, 101, 112, 105, 110, 103])), (.var 3)])) (.cmp .LtE (.idx (.var 5) (.cst (.int 2))) (.idx (.fld (.var 0) [116, 105, 109, 101, 115]) (.var 3)))) [(.ex (.mth (.var 0) [103, 105, 118, 101, 95, 98, 97, 99, 107] [(.var 3), (.var 2), (.cst (.int 0))]))] [])]
def F12 : Fn := ⟨2, 6, [], [(.asg (.tup [(.nm 3), (.nm 4)]) (.var 1)),
    (.asg (.fld (.var 0) [118, 105, 101, 119, 115]) (.lst [])),
    (.augi (.fld (.var 0) [116, 105, 109, 101, 115]) (.var 3) .Add (.idx (.fld (.var 0) [114, 97, 116, 101, 115]) (.var 3))),
    (.each (.nm 2) (.rng1 (.blt .len [(.fld (.var 0) [116, 104, 114, 101, 97, 100, 115])])) B12_0),
    (.ite (.cmp .Eq (.var 4) (.cst (.str [115, 116, 101, 112]))) [(.ex (.mth (.var 0) [103, 111, 95, 111, 110] [(.var 3)]))] [(.ite (.cmp .Eq (.var 4) (.cst (.str [116, 105, 109, 101, 114]))) [(.ex (.mth (.var 0) [116, 101, 108, 108] [(.cst (.str [116, 105, 99, 107])), (.var 3), (.neg (.cst (.int 1))), (.neg (.cst (.int 1))), (.tup [])])), (.ite (.cmp .GtE (.idx (.fld (.var 0) [114, 117, 110, 110, 105, 110, 103]) (.var 3)) (.cst (.int 0))) [(.ex (.mth (.var 0) [108, 101, 97, 118, 101] [(.var 3), (.idx (.fld (.var 0) [114, 117, 110, 110, 105, 110, 103]) (.var 3)), (.cst (.tup [(.str [114, 101, 97, 100, 121])])), (.cst (.int 1))]))] [])] [(.ite (.cmp .NotEq (.fld (.var 0) [114, 101, 113, 117, 101, 115, 116, 115]) (.lst [])) [(.ex (.mth (.var 0) [97, 110, 115, 119, 101, 114] [(.var 3)]))] [])])]),
    (.ret (.fld (.var 0) [118, 105, 101, 119, 115]))]⟩
def d12 : PDef := ⟨([77, 97, 99, 104, 105, 110, 101], [115, 116, 101, 112]), F12, (inCls (top 8) 11), ["self", "pick", "tid", "cpu", "what", "condition"], ["self", "pick"], []⟩
/-- Machine.answer: 0 self, 1 cpu, 2 result, 3 tid, 4 call, 5 number -/
def F13 : Fn := ⟨2, 6, [], [(.asg (.tup [(.nm 3), (.nm 4), (.nm 5)]) (.mth (.fld (.var 0) [114, 101, 113, 117, 101, 115, 116, 115]) [112, 111, 112] [(.cst (.int 0))])),
    (.asg (.nm 2) (.fld (.var 0) [118, 97, 108, 117, 101])),
    (.ite (.cmp .Eq (.var 4) (.cst (.int 3))) [(.asg (.fld (.var 0) [118, 97, 108, 117, 101]) (.var 5)), (.asg (.nm 2) (.cst (.int 0)))] []),
    (.ex (.mth (.var 0) [116, 101, 108, 108] [(.cst (.str [100, 111, 110, 101])), (.var 1), (.var 3), (.idx (.fld (.idx (.fld (.var 0) [116, 104, 114, 101, 97, 100, 115]) (.var 3)) [99, 97, 108, 108]) (.cst (.int 1))), (.tup [(.var 4)])])),
    (.ex (.mth (.var 0) [103, 105, 118, 101, 95, 98, 97, 99, 107] [(.var 1), (.var 3), (.var 2)]))]⟩
def d13 : PDef := ⟨([77, 97, 99, 104, 105, 110, 101], [97, 110, 115, 119, 101, 114]), F13, (inCls (top 8) 12), ["self", "cpu", "result", "tid", "call", "number"], ["self", "cpu"], []⟩
/-- Machine.go_on: 0 self, 1 cpu, 2 tid -/
def F14 : Fn := ⟨2, 3, [], [(.asg (.nm 2) (.idx (.fld (.var 0) [114, 117, 110, 110, 105, 110, 103]) (.var 1))),
    (.ite (.cmp .GtE (.var 2) (.cst (.int 0))) [(.ex (.mth (.var 0) [105, 110, 115, 116, 114, 117, 99, 116, 105, 111, 110] [(.var 1), (.var 2)]))] [(.ite (.cmp .NotEq (.fld (.var 0) [114, 101, 97, 100, 121]) (.lst [])) [(.asg (.nm 2) (.mth (.fld (.var 0) [114, 101, 97, 100, 121]) [112, 111, 112] [(.cst (.int 0))])), (.asg (.ix (.fld (.var 0) [114, 117, 110, 110, 105, 110, 103]) (.var 1)) (.var 2)), (.asg (.fld (.idx (.fld (.var 0) [116, 104, 114, 101, 97, 100, 115]) (.var 2)) [99, 111, 110, 100, 105, 116, 105, 111, 110]) (.tup [(.cst (.str [114, 117, 110, 110, 105, 110, 103])), (.var 1)])), (.ex (.mth (.var 0) [116, 101, 108, 108] [(.cst (.str [111, 110])), (.var 1), (.var 2), (.fld (.idx (.fld (.var 0) [116, 104, 114, 101, 97, 100, 115]) (.var 2)) [112, 99]), (.tup [])]))] [])])]⟩
def d14 : PDef := ⟨([77, 97, 99, 104, 105, 110, 101], [103, 111, 95, 111, 110]), F14, (inCls (top 8) 13), ["self", "cpu", "tid"], ["self", "cpu"], []⟩
/-- Machine.instruction: 0 self, 1 cpu, 2 tid, 3 thread, 4 at, 5 code, 6 told, 7 first, 8 second -/
def F15 : Fn := ⟨3, 9, [], [(.asg (.nm 3) (.idx (.fld (.var 0) [116, 104, 114, 101, 97, 100, 115]) (.var 2))),
    (.asg (.nm 4) (.fld (.var 3) [112, 99])),
    (.asg (.nm 5) (.mth (.var 0) [98, 121, 116, 101] [(.fld (.var 3) [112, 105, 100]), (.var 4)])),
    (.asg (.nm 6) (.mth (.var 0) [105, 115, 95, 116, 111, 108, 100] [(.fld (.var 3) [112, 105, 100]), (.var 4)])),
    (.ite (.cmp .GtE (.var 5) (.blt .len [(.cst (.tup [(.int 1), (.int 3), (.int 2), (.int 2), (.int 2), (.int 2), (.int 2), (.int 2), (.int 3), (.int 3), (.int 2), (.int 2), (.int 1)]))])) [(.ite (.var 6) [(.ex (.mth (.var 0) [116, 101, 108, 108] [(.cst (.str [105, 110, 115, 110])), (.var 1), (.var 2), (.var 4), (.tup [(.var 5)])]))] []), (.ex (.mth (.var 0) [116, 101, 108, 108] [(.cst (.str [102, 97, 117, 108, 116])), (.var 1), (.var 2), (.var 4), (.tup [(.var 5)])])), (.ex (.mth (.var 0) [101, 110, 100, 95, 116, 104, 114, 101, 97, 100] [(.var 1), (.var 2), (.var 4), (.cst (.int 65535))])), .retn] []),
    (.asg (.nm 7) (.mth (.var 0) [98, 121, 116, 101] [(.fld (.var 3) [112, 105, 100]), (.bin .Add (.var 4) (.cst (.int 1)))])),
    (.asg (.nm 8) (.mth (.var 0) [98, 121, 116, 101] [(.fld (.var 3) [112, 105, 100]), (.bin .Add (.var 4) (.cst (.int 2)))])),
    (.asg (.fld (.var 3) [112, 99]) (.bin .Mod (.blt .int [(.bin .Add (.var 4) (.idx (.cst (.tup [(.int 1), (.int 3), (.int 2), (.int 2), (.int 2), (.int 2), (.int 2), (.int 2), (.int 3), (.int 3), (.int 2), (.int 2), (.int 1)])) (.var 5)))]) (.cst (.int 256)))),
    (.ite (.var 6) [(.ex (.mth (.var 0) [116, 101, 108, 108] [(.cst (.str [105, 110, 115, 110])), (.var 1), (.var 2), (.var 4), (.tup [(.var 5)])]))] []),
    (.ite (.cmp .Eq (.var 5) (.cst (.int 0))) [(.ex (.mth (.var 0) [101, 110, 100, 95, 116, 104, 114, 101, 97, 100] [(.var 1), (.var 2), (.var 4), (.cst (.int 0))]))] [(.ite (.cmp .Eq (.var 5) (.cst (.int 10))) [(.asg (.fld (.var 3) [99, 97, 108, 108]) (.tup [(.var 7), (.var 4)])), (.ex (.mth (.var 0) [116, 101, 108, 108] [(.cst (.str [101, 110, 116, 114, 121])), (.var 1), (.var 2), (.var 4), (.tup [(.var 7), (.idx (.fld (.var 3) [114, 101, 103, 115]) (.cst (.int 0))), (.idx (.fld (.var 3) [114, 101, 103, 115]) (.cst (.int 1)))])])), (.ex (.mth (.var 0) [99, 97, 108, 108] [(.var 1), (.var 2), (.var 4), (.var 7)]))] [(.ite (.cmp .In (.var 5) (.tup [(.cst (.int 2)), (.cst (.int 3)), (.cst (.int 4)), (.cst (.int 5)), (.cst (.int 6))])) [(.ex (.mth (.var 0) [119, 111, 114, 107] [(.var 3), (.var 5), (.var 7)]))] [(.ex (.mth (.var 0) [119, 97, 121] [(.var 3), (.var 5), (.var 7), (.var 8)]))])])])]⟩
def d15 : PDef := ⟨([77, 97, 99, 104, 105, 110, 101], [105, 110, 115, 116, 114, 117, 99, 116, 105, 111, 110]), F15, (inCls (top 8) 14), ["self", "cpu", "tid", "thread", "at", "code", "told", "first", "second"], ["self", "cpu", "tid"], []⟩
/-- Machine.work: 0 self, 1 thread, 2 code, 3 pair, 4 a, 5 b -/
def F16 : Fn := ⟨4, 6, [], [(.asg (.nm 4) (.bin .Mod (.blt .int [(.bin .FloorDiv (.var 3) (.cst (.int 4)))]) (.cst (.int 4)))),
    (.asg (.nm 5) (.bin .Mod (.blt .int [(.var 3)]) (.cst (.int 4)))),
    (.ite (.cmp .Eq (.var 2) (.cst (.int 2))) [(.asg (.ix (.fld (.var 1) [114, 101, 103, 115]) (.var 4)) (.bin .Mod (.blt .int [(.bin .Add (.idx (.fld (.var 1) [114, 101, 103, 115]) (.var 4)) (.idx (.fld (.var 1) [114, 101, 103, 115]) (.var 5)))]) (.cst (.int 65536))))] [(.ite (.cmp .Eq (.var 2) (.cst (.int 3))) [(.asg (.ix (.fld (.var 1) [114, 101, 103, 115]) (.var 4)) (.bin .Mod (.blt .int [(.bin .Sub (.idx (.fld (.var 1) [114, 101, 103, 115]) (.var 4)) (.idx (.fld (.var 1) [114, 101, 103, 115]) (.var 5)))]) (.cst (.int 65536))))] [(.ite (.cmp .Eq (.var 2) (.cst (.int 4))) [(.asg (.ix (.fld (.var 1) [114, 101, 103, 115]) (.var 4)) (.idx (.fld (.var 1) [114, 101, 103, 115]) (.var 5)))] [(.ite (.cmp .Eq (.var 2) (.cst (.int 5))) [(.asg (.ix (.fld (.var 1) [114, 101, 103, 115]) (.var 4)) (.mth (.var 0) [98, 121, 116, 101] [(.fld (.var 1) [112, 105, 100]), (.idx (.fld (.var 1) [114, 101, 103, 115]) (.var 5))]))] [(.ex (.mth (.var 0) [112, 117, 116, 95, 98, 121, 116, 101] [(.fld (.var 1) [112, 105, 100]), (.idx (.fld (.var 1) [114, 101, 103, 115]) (.var 5)), (.bin .Mod (.blt .int [(.idx (.fld (.var 1) [114, 101, 103, 115]) (.var 4))]) (.cst (.int 256)))]))])])])])]⟩
def d16 : PDef := ⟨([77, 97, 99, 104, 105, 110, 101], [119, 111, 114, 107]), F16, (inCls (top 8) 15), ["self", "thread", "code", "pair", "a", "b"], ["self", "thread", "code", "pair"], []⟩
/-- Machine.way: 0 self, 1 thread, 2 code, 3 first, 4 second, 5 chosen -/
def F17 : Fn := ⟨5, 6, [], [(.asg (.nm 5) (.bin .Mod (.blt .int [(.var 3)]) (.cst (.int 4)))),
    (.ite (.cmp .Eq (.var 2) (.cst (.int 1))) [(.asg (.ix (.fld (.var 1) [114, 101, 103, 115]) (.var 5)) (.var 4))] [(.ite (.cmp .Eq (.var 2) (.cst (.int 7))) [(.asg (.fld (.var 1) [112, 99]) (.var 3))] [(.ite (.or (.and (.cmp .Eq (.var 2) (.cst (.int 8))) (.cmp .Eq (.idx (.fld (.var 1) [114, 101, 103, 115]) (.var 5)) (.cst (.int 0)))) (.and (.cmp .Eq (.var 2) (.cst (.int 9))) (.cmp .NotEq (.idx (.fld (.var 1) [114, 101, 103, 115]) (.var 5)) (.cst (.int 0))))) [(.asg (.fld (.var 1) [112, 99]) (.var 4))] [(.ite (.cmp .Eq (.var 2) (.cst (.int 11))) [(.asg (.ix (.fld (.var 1) [114, 101, 103, 115]) (.cst (.int 3))) (.fld (.var 1) [112, 99])), (.asg (.fld (.var 1) [112, 99]) (.var 3))] [(.ite (.cmp .Eq (.var 2) (.cst (.int 12))) [(.asg (.fld (.var 1) [112, 99]) (.bin .Mod (.blt .int [(.idx (.fld (.var 1) [114, 101, 103, 115]) (.cst (.int 3)))]) (.cst (.int 256))))] [])])])])])]⟩
def d17 : PDef := ⟨([77, 97, 99, 104, 105, 110, 101], [119, 97, 121]), F17, (inCls (top 8) 16), ["self", "thread", "code", "first", "second", "chosen"], ["self", "thread", "code", "first", "second"], []⟩
/-- Machine.call: 0 self, 1 cpu, 2 tid, 3 at, 4 number, 5 thread -/
def F18 : Fn := ⟨5, 6, [], [(.asg (.nm 5) (.idx (.fld (.var 0) [116, 104, 114, 101, 97, 100, 115]) (.var 2))),
    (.ite (.cmp .Eq (.var 4) (.cst (.int 0))) [(.ex (.mth (.var 0) [101, 110, 100, 95, 116, 104, 114, 101, 97, 100] [(.var 1), (.var 2), (.var 3), (.idx (.fld (.var 5) [114, 101, 103, 115]) (.cst (.int 0)))]))] [(.ite (.cmp .Eq (.var 4) (.cst (.int 1))) [(.ex (.mth (.var 0) [103, 105, 118, 101, 95, 98, 97, 99, 107] [(.var 1), (.var 2), (.cst (.int 0))])), (.ex (.mth (.var 0) [108, 101, 97, 118, 101] [(.var 1), (.var 2), (.cst (.tup [(.str [114, 101, 97, 100, 121])])), (.cst (.int 2))]))] [(.ite (.cmp .Eq (.var 4) (.cst (.int 2))) [(.ex (.mth (.var 0) [108, 101, 97, 118, 101] [(.var 1), (.var 2), (.tup [(.cst (.str [115, 108, 101, 101, 112, 105, 110, 103])), (.var 1), (.bin .Add (.idx (.fld (.var 0) [116, 105, 109, 101, 115]) (.var 1)) (.idx (.fld (.var 5) [114, 101, 103, 115]) (.cst (.int 0))))]), (.cst (.int 3))]))] [(.ite (.cmp .In (.var 4) (.tup [(.cst (.int 3)), (.cst (.int 4))])) [(.ex (.mth (.fld (.var 0) [114, 101, 113, 117, 101, 115, 116, 115]) [97, 112, 112, 101, 110, 100] [(.tup [(.var 2), (.var 4), (.idx (.fld (.var 5) [114, 101, 103, 115]) (.cst (.int 0)))])])), (.ex (.mth (.var 0) [108, 101, 97, 118, 101] [(.var 1), (.var 2), (.tup [(.cst (.str [97, 115, 107, 105, 110, 103]))]), (.cst (.int 4))]))] [(.ite (.cmp .Eq (.var 4) (.cst (.int 5))) [(.ex (.mth (.var 0) [110, 101, 119, 95, 116, 104, 114, 101, 97, 100] [(.var 1), (.var 2)]))] [(.ite (.cmp .Eq (.var 4) (.cst (.int 6))) [(.ex (.mth (.var 0) [119, 97, 105, 116, 95, 102, 111, 114] [(.var 1), (.var 2), (.idx (.fld (.var 5) [114, 101, 103, 115]) (.cst (.int 0)))]))] [(.ex (.mth (.var 0) [103, 105, 118, 101, 95, 98, 97, 99, 107] [(.var 1), (.var 2), (.cst (.int 65535))]))])])])])])])]⟩
def d18 : PDef := ⟨([77, 97, 99, 104, 105, 110, 101], [99, 97, 108, 108]), F18, (inCls (top 8) 17), ["self", "cpu", "tid", "at", "number", "thread"], ["self", "cpu", "tid", "at", "number"], []⟩
/-- Machine.new_thread: 0 self, 1 cpu, 2 tid, 3 thread, 4 made -/
def F19 : Fn := ⟨3, 5, [], [(.asg (.nm 3) (.idx (.fld (.var 0) [116, 104, 114, 101, 97, 100, 115]) (.var 2))),
    (.asg (.nm 4) (.cst (.int 65535))),
    (.ite (.cmp .Lt (.blt .len [(.fld (.var 0) [116, 104, 114, 101, 97, 100, 115])]) (.cst (.int 8))) [(.asg (.nm 4) (.mth (.var 0) [98, 101, 103, 105, 110, 95, 116, 104, 114, 101, 97, 100] [(.fld (.var 3) [112, 105, 100]), (.bin .Mod (.blt .int [(.idx (.fld (.var 3) [114, 101, 103, 115]) (.cst (.int 0)))]) (.cst (.int 256))), (.idx (.fld (.var 3) [114, 101, 103, 115]) (.cst (.int 1)))]))] []),
    (.ex (.mth (.var 0) [103, 105, 118, 101, 95, 98, 97, 99, 107] [(.var 1), (.var 2), (.var 4)]))]⟩
def d19 : PDef := ⟨([77, 97, 99, 104, 105, 110, 101], [110, 101, 119, 95, 116, 104, 114, 101, 97, 100]), F19, (inCls (top 8) 18), ["self", "cpu", "tid", "thread", "made"], ["self", "cpu", "tid"], []⟩
/-- Machine.wait_for: 0 self, 1 cpu, 2 tid, 3 other -/
def F20 : Fn := ⟨4, 4, [], [(.ite (.or (.cmp .GtE (.var 3) (.blt .len [(.fld (.var 0) [116, 104, 114, 101, 97, 100, 115])])) (.cmp .Eq (.var 3) (.var 2))) [(.ex (.mth (.var 0) [103, 105, 118, 101, 95, 98, 97, 99, 107] [(.var 1), (.var 2), (.cst (.int 65535))]))] [(.ite (.cmp .Eq (.idx (.fld (.idx (.fld (.var 0) [116, 104, 114, 101, 97, 100, 115]) (.var 3)) [99, 111, 110, 100, 105, 116, 105, 111, 110]) (.cst (.int 0))) (.cst (.str [101, 110, 100, 101, 100]))) [(.ex (.mth (.var 0) [103, 105, 118, 101, 95, 98, 97, 99, 107] [(.var 1), (.var 2), (.idx (.fld (.idx (.fld (.var 0) [116, 104, 114, 101, 97, 100, 115]) (.var 3)) [99, 111, 110, 100, 105, 116, 105, 111, 110]) (.cst (.int 1)))]))] [(.ex (.mth (.var 0) [108, 101, 97, 118, 101] [(.var 1), (.var 2), (.tup [(.cst (.str [119, 97, 105, 116, 105, 110, 103])), (.var 3)]), (.cst (.int 5))]))])])]⟩
def d20 : PDef := ⟨([77, 97, 99, 104, 105, 110, 101], [119, 97, 105, 116, 95, 102, 111, 114]), F20, (inCls (top 8) 19), ["self", "cpu", "tid", "other"], ["self", "cpu", "tid", "other"], []⟩
/-- _law_draws: 0 _law_script, 1 _law_many, 2 _law_draws_here, 3 _law_mixed, 4 _law_k, 5 _law_cell, 6 _law_rest, 7 _law_turn -/
def B21_0 : List S := [(.ite (.cmp .Gt (.var 6) (.cst (.int 0))) [(.ex (.mth (.var 2) [97, 112, 112, 101, 110, 100] [(.bin .Mod (.blt .int [(.var 6)]) (.cst (.int 997)))])), (.asg (.nm 6) (.bin .FloorDiv (.var 6) (.cst (.int 997))))] [])]
def B21_1 : List S := [(.asg (.nm 5) (.blt .abs [(.blt .int [(.idx (.var 0) (.var 4))])])), (.asg (.nm 3) (.bin .Mod (.blt .int [(.bin .Add (.bin .Add (.bin .Mult (.var 3) (.cst (.int 48271))) (.bin .Mod (.var 5) (.cst (.int 1000003)))) (.var 4))]) (.cst (.int 65537)))), (.asg (.nm 6) (.cst (.int 0))), (.ite (.cmp .GtE (.var 5) (.bin .Pow (.cst (.int 10)) (.cst (.int 18)))) [(.asg (.nm 6) (.var 5))] [(.ex (.mth (.var 2) [97, 112, 112, 101, 110, 100] [(.bin .Mod (.blt .int [(.var 5)]) (.cst (.int 997)))])), (.ex (.mth (.var 2) [97, 112, 112, 101, 110, 100] [(.bin .Mod (.bin .Mod (.blt .int [(.bin .Add (.bin .Mult (.var 3) (.cst (.int 69621))) (.cst (.int 5)))]) (.cst (.int 65521))) (.cst (.int 997)))]))]), (.each (.nm 7) (.rng1 (.cst (.int 60))) B21_0)]
def B21_2 : List S := [(.asg (.nm 3) (.bin .Mod (.blt .int [(.bin .Add (.bin .Add (.bin .Mult (.var 3) (.cst (.int 16807))) (.var 4)) (.cst (.int 1)))]) (.cst (.int 65537)))), (.ex (.mth (.var 2) [97, 112, 112, 101, 110, 100] [(.bin .Mod (.blt .int [(.var 3)]) (.cst (.int 997)))]))]
def F21 : Fn := ⟨2, 8, [], [(.asg (.nm 2) (.lst [])),
    (.asg (.nm 3) (.cst (.int 7))),
    (.each (.nm 4) (.rng1 (.blt .len [(.var 0)])) B21_1),
    (.each (.nm 4) (.rng1 (.var 1)) B21_2),
    (.ret (.sli (.var 2) none (some (.var 1))))]⟩
def d21 : PDef := ⟨([], [95, 108, 97, 119, 95, 100, 114, 97, 119, 115]), F21, (top 10), ["_law_script", "_law_many", "_law_draws_here", "_law_mixed", "_law_k", "_law_cell", "_law_rest", "_law_turn"], ["_law_script", "_law_many"], []⟩
/-- _law_next: 0 _law_w, 1 _law_many -/
def F22 : Fn := ⟨2, 2, [], [(.augi (.var 0) (.cst (.str [97, 116])) .Add (.cst (.int 1))),
    (.ite (.cmp .Gt (.idx (.var 0) (.cst (.str [97, 116]))) (.blt .len [(.idx (.var 0) (.cst (.str [100, 114, 97, 119, 115])))])) [(.ret (.cst (.int 0)))] []),
    (.ret (.bin .Mod (.blt .int [(.idx (.idx (.var 0) (.cst (.str [100, 114, 97, 119, 115]))) (.bin .Sub (.idx (.var 0) (.cst (.str [97, 116]))) (.cst (.int 1))))]) (.var 1)))]⟩
def d22 : PDef := ⟨([], [95, 108, 97, 119, 95, 110, 101, 120, 116]), F22, (top 11), ["_law_w", "_law_many"], ["_law_w", "_law_many"], []⟩
/-- _law_program: 0 _law_w, 1 _law_row, 2 _law_k, 3 _law_turn -/
def B23_0 : List S := [(.asg (.nm 3) (.call ([], [95, 108, 97, 119, 95, 110, 101, 120, 116]) [(.var 0), (.cst (.int 16))])), (.ite (.cmp .Lt (.var 3) (.cst (.int 5))) [(.asg (.nm 1) (.bin .Add (.var 1) (.lst [(.cst (.int 1)), (.call ([], [95, 108, 97, 119, 95, 110, 101, 120, 116]) [(.var 0), (.cst (.int 8))]), (.idx (.lst [(.call ([], [95, 108, 97, 119, 95, 110, 101, 120, 116]) [(.var 0), (.cst (.int 60))]), (.call ([], [95, 108, 97, 119, 95, 110, 101, 120, 116]) [(.var 0), (.cst (.int 256))]), (.call ([], [95, 108, 97, 119, 95, 110, 101, 120, 116]) [(.var 0), (.cst (.int 6))])]) (.call ([], [95, 108, 97, 119, 95, 110, 101, 120, 116]) [(.var 0), (.cst (.int 3))]))])))] [(.ite (.cmp .Lt (.var 3) (.cst (.int 7))) [(.asg (.nm 1) (.bin .Add (.var 1) (.lst [(.bin .Add (.cst (.int 2)) (.call ([], [95, 108, 97, 119, 95, 110, 101, 120, 116]) [(.var 0), (.cst (.int 3))])), (.call ([], [95, 108, 97, 119, 95, 110, 101, 120, 116]) [(.var 0), (.cst (.int 256))])])))] [(.ite (.cmp .Lt (.var 3) (.cst (.int 10))) [(.asg (.nm 1) (.bin .Add (.var 1) (.lst [(.bin .Add (.cst (.int 5)) (.call ([], [95, 108, 97, 119, 95, 110, 101, 120, 116]) [(.var 0), (.cst (.int 2))])), (.call ([], [95, 108, 97, 119, 95, 110, 101, 120, 116]) [(.var 0), (.cst (.int 256))])])))] [(.ite (.cmp .Eq (.var 3) (.cst (.int 10))) [(.asg (.nm 1) (.bin .Add (.var 1) (.lst [(.idx (.lst [(.cst (.int 7)), (.cst (.int 11))]) (.call ([], [95, 108, 97, 119, 95, 110, 101, 120, 116]) [(.var 0), (.cst (.int 2))])), (.call ([], [95, 108, 97, 119, 95, 110, 101, 120, 116]) [(.var 0), (.cst (.int 70))])])))] [(.ite (.cmp .Eq (.var 3) (.cst (.int 11))) [(.asg (.nm 1) (.bin .Add (.var 1) (.lst [(.bin .Add (.cst (.int 8)) (.call ([], [95, 108, 97, 119, 95, 110, 101, 120, 116]) [(.var 0), (.cst (.int 2))])), (.call ([], [95, 108, 97, 119, 95, 110, 101, 120, 116]) [(.var 0), (.cst (.int 256))]), (.call ([], [95, 108, 97, 119, 95, 110, 101, 120, 116]) [(.var 0), (.cst (.int 70))])])))] [(.ite (.cmp .Lt (.var 3) (.cst (.int 15))) [(.asg (.nm 1) (.bin .Add (.var 1) (.lst [(.cst (.int 10)), (.call ([], [95, 108, 97, 119, 95, 110, 101, 120, 116]) [(.var 0), (.cst (.int 9))])])))] [(.asg (.nm 1) (.bin .Add (.var 1) (.lst [(.idx (.lst [(.cst (.int 12)), (.cst (.int 0)), (.call ([], [95, 108, 97, 119, 95, 110, 101, 120, 116]) [(.var 0), (.cst (.int 256))])]) (.call ([], [95, 108, 97, 119, 95, 110, 101, 120, 116]) [(.var 0), (.cst (.int 3))]))])))])])])])])])]
def F23 : Fn := ⟨1, 4, [], [(.asg (.nm 1) (.lst [])),
    (.each (.nm 2) (.rng1 (.bin .Add (.cst (.int 4)) (.call ([], [95, 108, 97, 119, 95, 110, 101, 120, 116]) [(.var 0), (.cst (.int 26))]))) B23_0),
    (.ite (.cmp .Eq (.call ([], [95, 108, 97, 119, 95, 110, 101, 120, 116]) [(.var 0), (.cst (.int 2))]) (.cst (.int 0))) [(.asg (.nm 1) (.bin .Add (.var 1) (.lst [(.cst (.int 7)), (.call ([], [95, 108, 97, 119, 95, 110, 101, 120, 116]) [(.var 0), (.cst (.int 12))])])))] []),
    (.ret (.blt .tuple [(.var 1)]))]⟩
def d23 : PDef := ⟨([], [95, 108, 97, 119, 95, 112, 114, 111, 103, 114, 97, 109]), F23, (top 12), ["_law_w", "_law_row", "_law_k", "_law_turn"], ["_law_w"], []⟩
/-- _law_pick: 0 _law_w, 1 _law_cpus -/
def F24 : Fn := ⟨2, 2, [], [(.ret (.tup [(.call ([], [95, 108, 97, 119, 95, 110, 101, 120, 116]) [(.var 0), (.var 1)]), (.idx (.lst [(.cst (.str [115, 116, 101, 112])), (.cst (.str [115, 116, 101, 112])), (.cst (.str [115, 116, 101, 112])), (.cst (.str [115, 116, 101, 112])), (.cst (.str [115, 116, 101, 112])), (.cst (.str [115, 116, 101, 112])), (.cst (.str [116, 105, 109, 101, 114])), (.cst (.str [100, 101, 118, 105, 99, 101]))]) (.call ([], [95, 108, 97, 119, 95, 110, 101, 120, 116]) [(.var 0), (.cst (.int 8))]))]))]⟩
def d24 : PDef := ⟨([], [95, 108, 97, 119, 95, 112, 105, 99, 107]), F24, (top 13), ["_law_w", "_law_cpus"], ["_law_w", "_law_cpus"], []⟩
/-- _law_model: 0 _law_programs, 1 _law_rates, 2 _law_m, 3 _law_pid, 4 _law_rate, 5 _law_program_here -/
def X25_0 : E := (.bin .Add (.blt .list [(.var 5)]) (.bin .Mult (.lst [(.cst (.int 0))]) (.bin .Sub (.cst (.int 256)) (.blt .len [(.var 5)]))))
def X25_1 : E := (.cst (.int 0))
def X25_2 : E := (.neg (.cst (.int 1)))
def B25_3 : List S := [(.ex (.call ([], [95, 108, 97, 119, 95, 98, 101, 103, 105, 110]) [(.var 2), (.var 3), (.cst (.int 0)), (.cst (.int 0))]))]
def F25 : Fn := ⟨2, 6, [], [(.asg (.nm 2) (.dct [(.cst (.str [109, 101, 109])), (.comp [5] (.nm 5) (.seq (.var 0)) none X25_0), (.cst (.str [114, 97, 116, 101, 115])), (.var 1), (.cst (.str [101, 118, 101, 110, 116, 115])), (.lst [])])),
    (.asg (.ix (.var 2) (.cst (.str [116, 105, 109, 101]))) (.comp [4] (.nm 4) (.seq (.var 1)) none X25_1)),
    (.asg (.ix (.var 2) (.cst (.str [114, 117, 110, 115]))) (.comp [4] (.nm 4) (.seq (.var 1)) none X25_2)),
    (.asg (.ix (.var 2) (.cst (.str [116, 104, 114, 101, 97, 100, 115]))) (.lst [])),
    (.asg (.ix (.var 2) (.cst (.str [114, 101, 97, 100, 121]))) (.lst [])),
    (.asg (.ix (.var 2) (.cst (.str [100, 101, 118, 105, 99, 101]))) (.lst [(.cst (.int 0)), (.lst [])])),
    (.each (.nm 3) (.rng1 (.blt .len [(.var 0)])) B25_3),
    (.ret (.var 2))]⟩
def d25 : PDef := ⟨([], [95, 108, 97, 119, 95, 109, 111, 100, 101, 108]), F25, (top 14), ["_law_programs", "_law_rates", "_law_m", "_law_pid", "_law_rate", "_law_program_here"], ["_law_programs", "_law_rates"], []⟩
/-- _law_begin: 0 _law_m, 1 _law_pid, 2 _law_pc, 3 _law_first -/
def F26 : Fn := ⟨4, 4, [], [(.ex (.mth (.idx (.var 0) (.cst (.str [116, 104, 114, 101, 97, 100, 115]))) [97, 112, 112, 101, 110, 100] [(.dct [(.cst (.str [112, 105, 100])), (.var 1), (.cst (.str [112, 99])), (.var 2), (.cst (.str [114, 101, 103, 115])), (.lst [(.var 3), (.cst (.int 0)), (.cst (.int 0)), (.cst (.int 0))]), (.cst (.str [105, 115])), (.tup [(.cst (.str [114, 101, 97, 100, 121]))]), (.cst (.str [99, 97, 108, 108])), (.tup [(.cst (.int 0)), (.cst (.int 0))])])])),
    (.ex (.mth (.idx (.var 0) (.cst (.str [114, 101, 97, 100, 121]))) [97, 112, 112, 101, 110, 100] [(.bin .Sub (.blt .len [(.idx (.var 0) (.cst (.str [116, 104, 114, 101, 97, 100, 115])))]) (.cst (.int 1)))]))]⟩
def d26 : PDef := ⟨([], [95, 108, 97, 119, 95, 98, 101, 103, 105, 110]), F26, (top 15), ["_law_m", "_law_pid", "_law_pc", "_law_first"], ["_law_m", "_law_pid", "_law_pc", "_law_first"], []⟩
/-- _law_tell: 0 _law_m, 1 _law_kind, 2 _law_cpu, 3 _law_tid, 4 _law_at, 5 _law_args, 6 _law_pid, 7 _law_regs, 8 _law_memory -/
def F27 : Fn := ⟨6, 9, [], [(.asg (.nm 6) (.neg (.cst (.int 1)))),
    (.asg (.nm 7) (.tup [(.cst (.int 0)), (.cst (.int 0)), (.cst (.int 0)), (.cst (.int 0))])),
    (.asg (.nm 8) (.tup [])),
    (.ite (.cmp .GtE (.var 3) (.cst (.int 0))) [(.asg (.nm 6) (.idx (.idx (.idx (.var 0) (.cst (.str [116, 104, 114, 101, 97, 100, 115]))) (.var 3)) (.cst (.str [112, 105, 100])))), (.asg (.nm 7) (.blt .tuple [(.idx (.idx (.idx (.var 0) (.cst (.str [116, 104, 114, 101, 97, 100, 115]))) (.var 3)) (.cst (.str [114, 101, 103, 115])))])), (.asg (.nm 8) (.blt .tuple [(.idx (.idx (.var 0) (.cst (.str [109, 101, 109]))) (.var 6))]))] []),
    (.ex (.mth (.idx (.var 0) (.cst (.str [101, 118, 101, 110, 116, 115]))) [97, 112, 112, 101, 110, 100] [(.tup [(.tup [(.var 1), (.var 2), (.idx (.idx (.var 0) (.cst (.str [116, 105, 109, 101]))) (.var 2)), (.var 6), (.var 3), (.var 4), (.var 5)]), (.var 7), (.var 8)])]))]⟩
def d27 : PDef := ⟨([], [95, 108, 97, 119, 95, 116, 101, 108, 108]), F27, (top 16), ["_law_m", "_law_kind", "_law_cpu", "_law_tid", "_law_at", "_law_args", "_law_pid", "_law_regs", "_law_memory"], ["_law_m", "_law_kind", "_law_cpu", "_law_tid", "_law_at", "_law_args"], []⟩
/-- _law_returns: 0 _law_m, 1 _law_cpu, 2 _law_tid, 3 _law_result, 4 _law_thread -/
def F28 : Fn := ⟨4, 5, [], [(.asg (.nm 4) (.idx (.idx (.var 0) (.cst (.str [116, 104, 114, 101, 97, 100, 115]))) (.var 2))),
    (.asg (.ix (.idx (.var 4) (.cst (.str [114, 101, 103, 115]))) (.cst (.int 0))) (.var 3)),
    (.ex (.call ([], [95, 108, 97, 119, 95, 116, 101, 108, 108]) [(.var 0), (.cst (.str [114, 101, 116, 117, 114, 110])), (.var 1), (.var 2), (.idx (.idx (.var 4) (.cst (.str [99, 97, 108, 108]))) (.cst (.int 1))), (.tup [(.idx (.idx (.var 4) (.cst (.str [99, 97, 108, 108]))) (.cst (.int 0))), (.var 3)])])),
    (.ite (.cmp .NotEq (.idx (.idx (.var 4) (.cst (.str [105, 115]))) (.cst (.int 0))) (.cst (.str [114, 117, 110, 110, 105, 110, 103]))) [(.asg (.ix (.var 4) (.cst (.str [105, 115]))) (.tup [(.cst (.str [114, 101, 97, 100, 121]))])), (.ex (.mth (.idx (.var 0) (.cst (.str [114, 101, 97, 100, 121]))) [97, 112, 112, 101, 110, 100] [(.var 2)]))] [])]⟩
def d28 : PDef := ⟨([], [95, 108, 97, 119, 95, 114, 101, 116, 117, 114, 110, 115]), F28, (top 17), ["_law_m", "_law_cpu", "_law_tid", "_law_result", "_law_thread"], ["_law_m", "_law_cpu", "_law_tid", "_law_result"], []⟩
/-- _law_off: 0 _law_m, 1 _law_cpu, 2 _law_tid, 3 _law_condition, 4 _law_reason -/
def F29 : Fn := ⟨5, 5, [], [(.asg (.ix (.idx (.idx (.var 0) (.cst (.str [116, 104, 114, 101, 97, 100, 115]))) (.var 2)) (.cst (.str [105, 115]))) (.var 3)),
    (.asg (.ix (.idx (.var 0) (.cst (.str [114, 117, 110, 115]))) (.var 1)) (.neg (.cst (.int 1)))),
    (.ite (.cmp .Eq (.var 3) (.tup [(.cst (.str [114, 101, 97, 100, 121]))])) [(.ex (.mth (.idx (.var 0) (.cst (.str [114, 101, 97, 100, 121]))) [97, 112, 112, 101, 110, 100] [(.var 2)]))] []),
    (.ex (.call ([], [95, 108, 97, 119, 95, 116, 101, 108, 108]) [(.var 0), (.cst (.str [111, 102, 102])), (.var 1), (.var 2), (.idx (.idx (.idx (.var 0) (.cst (.str [116, 104, 114, 101, 97, 100, 115]))) (.var 2)) (.cst (.str [112, 99]))), (.tup [(.var 4)])]))]⟩
def d29 : PDef := ⟨([], [95, 108, 97, 119, 95, 111, 102, 102]), F29, (top 18), ["_law_m", "_law_cpu", "_law_tid", "_law_condition", "_law_reason"], ["_law_m", "_law_cpu", "_law_tid", "_law_condition", "_law_reason"], []⟩
/-- _law_ends: 0 _law_m, 1 _law_cpu, 2 _law_tid, 3 _law_at, 4 _law_code, 5 _law_other -/
def B30_0 : List S := [(.ite (.cmp .Eq (.idx (.idx (.idx (.var 0) (.cst (.str [116, 104, 114, 101, 97, 100, 115]))) (.var 5)) (.cst (.str [105, 115]))) (.tup [(.cst (.str [119, 97, 105, 116, 105, 110, 103])), (.var 2)])) [(.ex (.call ([], [95, 108, 97, 119, 95, 114, 101, 116, 117, 114, 110, 115]) [(.var 0), (.var 1), (.var 5), (.var 4)]))] [])]
def F30 : Fn := ⟨5, 6, [], [(.ex (.call ([], [95, 108, 97, 119, 95, 116, 101, 108, 108]) [(.var 0), (.cst (.str [101, 110, 100])), (.var 1), (.var 2), (.var 3), (.tup [(.var 4)])])),
    (.asg (.ix (.idx (.idx (.var 0) (.cst (.str [116, 104, 114, 101, 97, 100, 115]))) (.var 2)) (.cst (.str [105, 115]))) (.tup [(.cst (.str [101, 110, 100, 101, 100])), (.var 4)])),
    (.asg (.ix (.idx (.var 0) (.cst (.str [114, 117, 110, 115]))) (.var 1)) (.neg (.cst (.int 1)))),
    (.each (.nm 5) (.rng1 (.blt .len [(.idx (.var 0) (.cst (.str [116, 104, 114, 101, 97, 100, 115])))])) B30_0)]⟩
def d30 : PDef := ⟨([], [95, 108, 97, 119, 95, 101, 110, 100, 115]), F30, (top 19), ["_law_m", "_law_cpu", "_law_tid", "_law_at", "_law_code", "_law_other"], ["_law_m", "_law_cpu", "_law_tid", "_law_at", "_law_code"], []⟩
/-- _law_call: 0 _law_m, 1 _law_cpu, 2 _law_tid, 3 _law_at, 4 _law_number, 5 _law_thread, 6 _law_first, 7 _law_condition -/
def F31 : Fn := ⟨5, 8, [], [(.asg (.nm 5) (.idx (.idx (.var 0) (.cst (.str [116, 104, 114, 101, 97, 100, 115]))) (.var 2))),
    (.asg (.nm 6) (.idx (.idx (.var 5) (.cst (.str [114, 101, 103, 115]))) (.cst (.int 0)))),
    (.asg (.ix (.var 5) (.cst (.str [99, 97, 108, 108]))) (.tup [(.var 4), (.var 3)])),
    (.ex (.call ([], [95, 108, 97, 119, 95, 116, 101, 108, 108]) [(.var 0), (.cst (.str [101, 110, 116, 114, 121])), (.var 1), (.var 2), (.var 3), (.tup [(.var 4), (.var 6), (.idx (.idx (.var 5) (.cst (.str [114, 101, 103, 115]))) (.cst (.int 1)))])])),
    (.ite (.cmp .Eq (.var 4) (.cst (.int 0))) [(.ex (.call ([], [95, 108, 97, 119, 95, 101, 110, 100, 115]) [(.var 0), (.var 1), (.var 2), (.var 3), (.var 6)]))] [(.ite (.cmp .Eq (.var 4) (.cst (.int 1))) [(.ex (.call ([], [95, 108, 97, 119, 95, 114, 101, 116, 117, 114, 110, 115]) [(.var 0), (.var 1), (.var 2), (.cst (.int 0))])), (.ex (.call ([], [95, 108, 97, 119, 95, 111, 102, 102]) [(.var 0), (.var 1), (.var 2), (.tup [(.cst (.str [114, 101, 97, 100, 121]))]), (.cst (.int 2))]))] [(.ite (.cmp .Eq (.var 4) (.cst (.int 2))) [(.ex (.call ([], [95, 108, 97, 119, 95, 111, 102, 102]) [(.var 0), (.var 1), (.var 2), (.tup [(.cst (.str [115, 108, 101, 101, 112, 105, 110, 103])), (.var 1), (.bin .Add (.idx (.idx (.var 0) (.cst (.str [116, 105, 109, 101]))) (.var 1)) (.var 6))]), (.cst (.int 3))]))] [(.ite (.cmp .In (.var 4) (.lst [(.cst (.int 3)), (.cst (.int 4))])) [(.ex (.mth (.idx (.idx (.var 0) (.cst (.str [100, 101, 118, 105, 99, 101]))) (.cst (.int 1))) [97, 112, 112, 101, 110, 100] [(.tup [(.var 2), (.var 4), (.var 6)])])), (.ex (.call ([], [95, 108, 97, 119, 95, 111, 102, 102]) [(.var 0), (.var 1), (.var 2), (.tup [(.cst (.str [97, 115, 107, 105, 110, 103]))]), (.cst (.int 4))]))] [(.ite (.and (.cmp .Eq (.var 4) (.cst (.int 5))) (.cmp .Lt (.blt .len [(.idx (.var 0) (.cst (.str [116, 104, 114, 101, 97, 100, 115])))]) (.cst (.int 8)))) [(.ex (.call ([], [95, 108, 97, 119, 95, 98, 101, 103, 105, 110]) [(.var 0), (.idx (.var 5) (.cst (.str [112, 105, 100]))), (.bin .Mod (.blt .int [(.var 6)]) (.cst (.int 256))), (.idx (.idx (.var 5) (.cst (.str [114, 101, 103, 115]))) (.cst (.int 1)))])), (.ex (.call ([], [95, 108, 97, 119, 95, 114, 101, 116, 117, 114, 110, 115]) [(.var 0), (.var 1), (.var 2), (.bin .Sub (.blt .len [(.idx (.var 0) (.cst (.str [116, 104, 114, 101, 97, 100, 115])))]) (.cst (.int 1)))]))] [(.ite (.and (.cmp .Eq (.var 4) (.cst (.int 6))) (.and (.cmp .Lt (.var 6) (.blt .len [(.idx (.var 0) (.cst (.str [116, 104, 114, 101, 97, 100, 115])))])) (.cmp .NotEq (.var 6) (.var 2)))) [(.asg (.nm 7) (.idx (.idx (.idx (.var 0) (.cst (.str [116, 104, 114, 101, 97, 100, 115]))) (.var 6)) (.cst (.str [105, 115])))), (.ite (.cmp .Eq (.idx (.var 7) (.cst (.int 0))) (.cst (.str [101, 110, 100, 101, 100]))) [(.ex (.call ([], [95, 108, 97, 119, 95, 114, 101, 116, 117, 114, 110, 115]) [(.var 0), (.var 1), (.var 2), (.idx (.var 7) (.cst (.int 1)))]))] [(.ex (.call ([], [95, 108, 97, 119, 95, 111, 102, 102]) [(.var 0), (.var 1), (.var 2), (.tup [(.cst (.str [119, 97, 105, 116, 105, 110, 103])), (.var 6)]), (.cst (.int 5))]))])] [(.ex (.call ([], [95, 108, 97, 119, 95, 114, 101, 116, 117, 114, 110, 115]) [(.var 0), (.var 1), (.var 2), (.cst (.int 65535))]))])])])])])])]⟩
def d31 : PDef := ⟨([], [95, 108, 97, 119, 95, 99, 97, 108, 108]), F31, (top 20), ["_law_m", "_law_cpu", "_law_tid", "_law_at", "_law_number", "_law_thread", "_law_first", "_law_condition"], ["_law_m", "_law_cpu", "_law_tid", "_law_at", "_law_number"], []⟩
/-- _law_instruction: 0 _law_m, 1 _law_cpu, 2 _law_tid, 3 _law_thread, 4 _law_mem, 5 _law_at, 6 _law_code, 7 _law_x, 8 _law_y, 9 _law_regs, 10 _law_behind, 11 _law_a, 12 _law_b -/
def F32 : Fn := ⟨3, 13, [], [(.asg (.nm 3) (.idx (.idx (.var 0) (.cst (.str [116, 104, 114, 101, 97, 100, 115]))) (.var 2))),
    (.asg (.nm 4) (.idx (.idx (.var 0) (.cst (.str [109, 101, 109]))) (.idx (.var 3) (.cst (.str [112, 105, 100]))))),
    (.asg (.nm 5) (.idx (.var 3) (.cst (.str [112, 99])))),
    (.asg (.nm 6) (.idx (.var 4) (.var 5))),
    (.asg (.nm 7) (.idx (.var 4) (.bin .Mod (.blt .int [(.bin .Add (.var 5) (.cst (.int 1)))]) (.cst (.int 256))))),
    (.asg (.nm 8) (.idx (.var 4) (.bin .Mod (.blt .int [(.bin .Add (.var 5) (.cst (.int 2)))]) (.cst (.int 256))))),
    (.asg (.nm 9) (.idx (.var 3) (.cst (.str [114, 101, 103, 115])))),
    (.ite (.cmp .LtE (.var 6) (.cst (.int 12))) [(.asg (.ix (.var 3) (.cst (.str [112, 99]))) (.bin .Mod (.blt .int [(.bin .Add (.var 5) (.idx (.lst [(.cst (.int 1)), (.cst (.int 3)), (.cst (.int 2)), (.cst (.int 2)), (.cst (.int 2)), (.cst (.int 2)), (.cst (.int 2)), (.cst (.int 2)), (.cst (.int 3)), (.cst (.int 3)), (.cst (.int 2)), (.cst (.int 2)), (.cst (.int 1))]) (.var 6)))]) (.cst (.int 256))))] []),
    (.asg (.nm 10) (.idx (.var 3) (.cst (.str [112, 99])))),
    (.ex (.call ([], [95, 108, 97, 119, 95, 116, 101, 108, 108]) [(.var 0), (.cst (.str [105, 110, 115, 110])), (.var 1), (.var 2), (.var 5), (.tup [(.var 6)])])),
    (.asg (.nm 11) (.bin .Mod (.blt .int [(.bin .FloorDiv (.var 7) (.cst (.int 4)))]) (.cst (.int 4)))),
    (.asg (.nm 12) (.bin .Mod (.blt .int [(.var 7)]) (.cst (.int 4)))),
    (.ite (.cmp .Gt (.var 6) (.cst (.int 12))) [(.ex (.call ([], [95, 108, 97, 119, 95, 116, 101, 108, 108]) [(.var 0), (.cst (.str [102, 97, 117, 108, 116])), (.var 1), (.var 2), (.var 5), (.tup [(.var 6)])])), (.ex (.call ([], [95, 108, 97, 119, 95, 101, 110, 100, 115]) [(.var 0), (.var 1), (.var 2), (.var 5), (.cst (.int 65535))]))] [(.ite (.cmp .Eq (.var 6) (.cst (.int 0))) [(.ex (.call ([], [95, 108, 97, 119, 95, 101, 110, 100, 115]) [(.var 0), (.var 1), (.var 2), (.var 5), (.cst (.int 0))]))] [(.ite (.cmp .Eq (.var 6) (.cst (.int 1))) [(.asg (.ix (.var 9) (.var 12)) (.var 8))] [(.ite (.cmp .Eq (.var 6) (.cst (.int 2))) [(.asg (.ix (.var 9) (.var 11)) (.bin .Mod (.blt .int [(.bin .Add (.idx (.var 9) (.var 11)) (.idx (.var 9) (.var 12)))]) (.cst (.int 65536))))] [(.ite (.cmp .Eq (.var 6) (.cst (.int 3))) [(.asg (.ix (.var 9) (.var 11)) (.bin .Mod (.blt .int [(.bin .Sub (.bin .Add (.idx (.var 9) (.var 11)) (.cst (.int 65536))) (.idx (.var 9) (.var 12)))]) (.cst (.int 65536))))] [(.ite (.cmp .Eq (.var 6) (.cst (.int 4))) [(.asg (.ix (.var 9) (.var 11)) (.idx (.var 9) (.var 12)))] [(.ite (.cmp .Eq (.var 6) (.cst (.int 5))) [(.asg (.ix (.var 9) (.var 11)) (.idx (.var 4) (.bin .Mod (.blt .int [(.idx (.var 9) (.var 12))]) (.cst (.int 256)))))] [(.ite (.cmp .Eq (.var 6) (.cst (.int 6))) [(.asg (.ix (.var 4) (.bin .Mod (.blt .int [(.idx (.var 9) (.var 12))]) (.cst (.int 256)))) (.bin .Mod (.blt .int [(.idx (.var 9) (.var 11))]) (.cst (.int 256))))] [(.ite (.or (.cmp .Eq (.var 6) (.cst (.int 7))) (.cmp .Eq (.var 6) (.cst (.int 11)))) [(.asg (.ix (.var 3) (.cst (.str [112, 99]))) (.var 7)), (.ite (.cmp .Eq (.var 6) (.cst (.int 11))) [(.asg (.ix (.var 9) (.cst (.int 3))) (.var 10))] [])] [(.ite (.or (.cmp .Eq (.var 6) (.cst (.int 8))) (.cmp .Eq (.var 6) (.cst (.int 9)))) [(.ite (.cmp .Eq (.cmp .Eq (.idx (.var 9) (.var 12)) (.cst (.int 0))) (.cmp .Eq (.var 6) (.cst (.int 8)))) [(.asg (.ix (.var 3) (.cst (.str [112, 99]))) (.var 8))] [])] [(.ite (.cmp .Eq (.var 6) (.cst (.int 10))) [(.ex (.call ([], [95, 108, 97, 119, 95, 99, 97, 108, 108]) [(.var 0), (.var 1), (.var 2), (.var 5), (.var 7)]))] [(.asg (.ix (.var 3) (.cst (.str [112, 99]))) (.bin .Mod (.blt .int [(.idx (.var 9) (.cst (.int 3)))]) (.cst (.int 256))))])])])])])])])])])])])]⟩
def d32 : PDef := ⟨([], [95, 108, 97, 119, 95, 105, 110, 115, 116, 114, 117, 99, 116, 105, 111, 110]), F32, (top 21), ["_law_m", "_law_cpu", "_law_tid", "_law_thread", "_law_mem", "_law_at", "_law_code", "_law_x", "_law_y", "_law_regs", "_law_behind", "_law_a", "_law_b"], ["_law_m", "_law_cpu", "_law_tid"], []⟩
/-- _law_step: 0 _law_m, 1 _law_pick_here, 2 _law_tid, 3 _law_cpu, 4 _law_what, 5 _law_condition, 6 _law_result, 7 _law_asked, 8 _law_call_here, 9 _law_number -/
def B33_0 : List S := [(.asg (.nm 5) (.idx (.idx (.idx (.var 0) (.cst (.str [116, 104, 114, 101, 97, 100, 115]))) (.var 2)) (.cst (.str [105, 115])))), (.ite (.and (.cmp .Eq (.sli (.var 5) none (some (.cst (.int 2)))) (.tup [(.cst (.str [115, 108, 101, 101, 112, 105, 110, 103])), (.var 3)])) (.cmp .LtE (.idx (.var 5) (.cst (.int 2))) (.idx (.idx (.var 0) (.cst (.str [116, 105, 109, 101]))) (.var 3)))) [(.ex (.call ([], [95, 108, 97, 119, 95, 114, 101, 116, 117, 114, 110, 115]) [(.var 0), (.var 3), (.var 2), (.cst (.int 0))]))] [])]
def F33 : Fn := ⟨2, 10, [], [(.asg (.tup [(.nm 3), (.nm 4)]) (.var 1)),
    (.asg (.ix (.var 0) (.cst (.str [101, 118, 101, 110, 116, 115]))) (.lst [])),
    (.augi (.idx (.var 0) (.cst (.str [116, 105, 109, 101]))) (.var 3) .Add (.idx (.idx (.var 0) (.cst (.str [114, 97, 116, 101, 115]))) (.var 3))),
    (.each (.nm 2) (.rng1 (.blt .len [(.idx (.var 0) (.cst (.str [116, 104, 114, 101, 97, 100, 115])))])) B33_0),
    (.asg (.nm 2) (.idx (.idx (.var 0) (.cst (.str [114, 117, 110, 115]))) (.var 3))),
    (.ite (.and (.cmp .Eq (.var 4) (.cst (.str [115, 116, 101, 112]))) (.cmp .GtE (.var 2) (.cst (.int 0)))) [(.ex (.call ([], [95, 108, 97, 119, 95, 105, 110, 115, 116, 114, 117, 99, 116, 105, 111, 110]) [(.var 0), (.var 3), (.var 2)]))] [(.ite (.and (.cmp .Eq (.var 4) (.cst (.str [115, 116, 101, 112]))) (.cmp .NotEq (.idx (.var 0) (.cst (.str [114, 101, 97, 100, 121]))) (.lst []))) [(.asg (.nm 2) (.idx (.idx (.var 0) (.cst (.str [114, 101, 97, 100, 121]))) (.cst (.int 0)))), (.asg (.ix (.var 0) (.cst (.str [114, 101, 97, 100, 121]))) (.sli (.idx (.var 0) (.cst (.str [114, 101, 97, 100, 121]))) (some (.cst (.int 1))) none)), (.asg (.ix (.idx (.var 0) (.cst (.str [114, 117, 110, 115]))) (.var 3)) (.var 2)), (.asg (.ix (.idx (.idx (.var 0) (.cst (.str [116, 104, 114, 101, 97, 100, 115]))) (.var 2)) (.cst (.str [105, 115]))) (.tup [(.cst (.str [114, 117, 110, 110, 105, 110, 103])), (.var 3)])), (.ex (.call ([], [95, 108, 97, 119, 95, 116, 101, 108, 108]) [(.var 0), (.cst (.str [111, 110])), (.var 3), (.var 2), (.idx (.idx (.idx (.var 0) (.cst (.str [116, 104, 114, 101, 97, 100, 115]))) (.var 2)) (.cst (.str [112, 99]))), (.tup [])]))] [(.ite (.cmp .Eq (.var 4) (.cst (.str [116, 105, 109, 101, 114]))) [(.ex (.call ([], [95, 108, 97, 119, 95, 116, 101, 108, 108]) [(.var 0), (.cst (.str [116, 105, 99, 107])), (.var 3), (.neg (.cst (.int 1))), (.neg (.cst (.int 1))), (.tup [])])), (.ite (.cmp .GtE (.var 2) (.cst (.int 0))) [(.ex (.call ([], [95, 108, 97, 119, 95, 111, 102, 102]) [(.var 0), (.var 3), (.var 2), (.tup [(.cst (.str [114, 101, 97, 100, 121]))]), (.cst (.int 1))]))] [])] [(.ite (.and (.cmp .Eq (.var 4) (.cst (.str [100, 101, 118, 105, 99, 101]))) (.cmp .NotEq (.idx (.idx (.var 0) (.cst (.str [100, 101, 118, 105, 99, 101]))) (.cst (.int 1))) (.lst []))) [(.asg (.tup [(.nm 7), (.nm 8), (.nm 9)]) (.idx (.idx (.idx (.var 0) (.cst (.str [100, 101, 118, 105, 99, 101]))) (.cst (.int 1))) (.cst (.int 0)))), (.asg (.nm 6) (.idx (.idx (.var 0) (.cst (.str [100, 101, 118, 105, 99, 101]))) (.cst (.int 0)))), (.asg (.ix (.var 0) (.cst (.str [100, 101, 118, 105, 99, 101]))) (.lst [(.idx (.idx (.var 0) (.cst (.str [100, 101, 118, 105, 99, 101]))) (.cst (.int 0))), (.sli (.idx (.idx (.var 0) (.cst (.str [100, 101, 118, 105, 99, 101]))) (.cst (.int 1))) (some (.cst (.int 1))) none)])), (.ite (.cmp .Eq (.var 8) (.cst (.int 3))) [(.asg (.ix (.idx (.var 0) (.cst (.str [100, 101, 118, 105, 99, 101]))) (.cst (.int 0))) (.var 9)), (.asg (.nm 6) (.cst (.int 0)))] []), (.ex (.call ([], [95, 108, 97, 119, 95, 116, 101, 108, 108]) [(.var 0), (.cst (.str [100, 111, 110, 101])), (.var 3), (.var 7), (.idx (.idx (.idx (.idx (.var 0) (.cst (.str [116, 104, 114, 101, 97, 100, 115]))) (.var 7)) (.cst (.str [99, 97, 108, 108]))) (.cst (.int 1))), (.tup [(.var 8)])])), (.ex (.call ([], [95, 108, 97, 119, 95, 114, 101, 116, 117, 114, 110, 115]) [(.var 0), (.var 3), (.var 7), (.var 6)]))] [])])])])]⟩
def d33 : PDef := ⟨([], [95, 108, 97, 119, 95, 115, 116, 101, 112]), F33, (top 22), ["_law_m", "_law_pick_here", "_law_tid", "_law_cpu", "_law_what", "_law_condition", "_law_result", "_law_asked", "_law_call_here", "_law_number"], ["_law_m", "_law_pick_here"], []⟩
/-- _law_state: 0 _law_m, 1 _law_threads, 2 _law_processors, 3 _law_memories, 4 _law_one, 5 _law_k, 6 _law_mem -/
def X34_0 : E := (.tup [(.idx (.var 4) (.cst (.str [112, 105, 100]))), (.idx (.var 4) (.cst (.str [112, 99]))), (.blt .tuple [(.idx (.var 4) (.cst (.str [114, 101, 103, 115])))]), (.idx (.var 4) (.cst (.str [105, 115])))])
def X34_1 : E := (.tup [(.idx (.idx (.var 0) (.cst (.str [116, 105, 109, 101]))) (.var 5)), (.idx (.idx (.var 0) (.cst (.str [114, 117, 110, 115]))) (.var 5))])
def X34_2 : E := (.blt .tuple [(.var 6)])
def F34 : Fn := ⟨1, 7, [], [(.asg (.nm 1) (.blt .tuple [(.comp [4] (.nm 4) (.seq (.idx (.var 0) (.cst (.str [116, 104, 114, 101, 97, 100, 115])))) none X34_0)])),
    (.asg (.nm 2) (.blt .tuple [(.comp [5] (.nm 5) (.rng1 (.blt .len [(.idx (.var 0) (.cst (.str [114, 97, 116, 101, 115])))])) none X34_1)])),
    (.asg (.nm 3) (.blt .tuple [(.comp [6] (.nm 6) (.seq (.idx (.var 0) (.cst (.str [109, 101, 109])))) none X34_2)])),
    (.ret (.tup [(.var 3), (.var 1), (.blt .tuple [(.idx (.var 0) (.cst (.str [114, 101, 97, 100, 121])))]), (.var 2), (.tup [(.idx (.idx (.var 0) (.cst (.str [100, 101, 118, 105, 99, 101]))) (.cst (.int 0))), (.blt .tuple [(.idx (.idx (.var 0) (.cst (.str [100, 101, 118, 105, 99, 101]))) (.cst (.int 1)))])])]))]⟩
def d34 : PDef := ⟨([], [95, 108, 97, 119, 95, 115, 116, 97, 116, 101]), F34, (top 23), ["_law_m", "_law_threads", "_law_processors", "_law_memories", "_law_one", "_law_k", "_law_mem"], ["_law_m"], []⟩
/-- _law_longer: 0 _law_w, 1 _law_program_here, 2 _law_turn, 3 _law_row, 4 _law_many, 5 _law_start, 6 _law_k -/
def B35_0 : List S := [(.ex (.mth (.var 3) [97, 112, 112, 101, 110, 100] [(.bin .Mod (.blt .int [(.bin .Add (.var 5) (.bin .Mult (.bin .Mult (.var 6) (.var 6)) (.cst (.int 5))))]) (.idx (.lst [(.cst (.int 13)), (.cst (.int 256))]) (.bin .Mod (.blt .int [(.bin .FloorDiv (.var 6) (.cst (.int 7)))]) (.cst (.int 2)))))]))]
def B35_1 : List S := [(.asg (.ix (.var 3) (.call ([], [95, 108, 97, 119, 95, 110, 101, 120, 116]) [(.var 0), (.blt .len [(.var 3)])])) (.idx (.lst [(.cst (.int 7)), (.cst (.int 11)), (.cst (.int 10)), (.cst (.int 1))]) (.call ([], [95, 108, 97, 119, 95, 110, 101, 120, 116]) [(.var 0), (.cst (.int 4))])))]
def F35 : Fn := ⟨2, 7, [], [(.asg (.nm 2) (.call ([], [95, 108, 97, 119, 95, 110, 101, 120, 116]) [(.var 0), (.cst (.int 4))])),
    (.ite (.cmp .Gt (.var 2) (.cst (.int 1))) [(.ret (.var 1))] []),
    (.asg (.nm 3) (.blt .list [(.var 1)])),
    (.asg (.nm 4) (.bin .Sub (.cst (.int 256)) (.blt .len [(.var 3)]))),
    (.ite (.cmp .Eq (.var 2) (.cst (.int 1))) [(.asg (.nm 4) (.call ([], [95, 108, 97, 119, 95, 110, 101, 120, 116]) [(.var 0), (.bin .Add (.var 4) (.cst (.int 1)))]))] []),
    (.asg (.nm 5) (.call ([], [95, 108, 97, 119, 95, 110, 101, 120, 116]) [(.var 0), (.cst (.int 256))])),
    (.each (.nm 6) (.rng1 (.var 4)) B35_0),
    (.each (.nm 6) (.rng1 (.cst (.int 3))) B35_1),
    (.ret (.blt .tuple [(.var 3)]))]⟩
def d35 : PDef := ⟨([], [95, 108, 97, 119, 95, 108, 111, 110, 103, 101, 114]), F35, (top 24), ["_law_w", "_law_program_here", "_law_turn", "_law_row", "_law_many", "_law_start", "_law_k"], ["_law_w", "_law_program_here"], []⟩
/-- law: 0 _law_script, 1 _law_w, 2 _law_programs, 3 _law_rates, 4 _law_machine, 5 _law_m, 6 _law_k, 7 _law_pick_here, 8 _law_views -/
def X36_0 : E := (.call ([], [95, 108, 97, 119, 95, 108, 111, 110, 103, 101, 114]) [(.var 1), (.call ([], [95, 108, 97, 119, 95, 112, 114, 111, 103, 114, 97, 109]) [(.var 1)])])
def X36_1 : E := (.bin .Add (.cst (.int 1)) (.call ([], [95, 108, 97, 119, 95, 110, 101, 120, 116]) [(.var 1), (.idx (.lst [(.cst (.int 40)), (.cst (.int 999))]) (.call ([], [95, 108, 97, 119, 95, 110, 101, 120, 116]) [(.var 1), (.cst (.int 2))]))]))
def B36_2 : List S := [(.asg (.nm 7) (.call ([], [95, 108, 97, 119, 95, 112, 105, 99, 107]) [(.var 1), (.blt .len [(.var 3)])])), (.ex (.call ([], [95, 108, 97, 119, 95, 115, 116, 101, 112]) [(.var 5), (.var 7)])), (.asg (.nm 8) (.mth (.var 4) [115, 116, 101, 112] [(.var 7)])), (.ite (.or (.nt (.blt (.isa "list") [(.var 8)])) (.cmp .NotEq (.var 8) (.idx (.var 5) (.cst (.str [101, 118, 101, 110, 116, 115]))))) [(.ret (.cst (.bl false)))] []), (.ex (.mth (.var 8) [97, 112, 112, 101, 110, 100] [(.cst (.str [99, 104, 97, 110, 103, 101, 100]))])), (.ite (.and (.cmp .Eq (.bin .Mod (.var 6) (.cst (.int 3))) (.cst (.int 0))) (.cmp .NotEq (.mth (.var 4) [115, 116, 97, 116, 101] []) (.call ([], [95, 108, 97, 119, 95, 115, 116, 97, 116, 101]) [(.var 5)]))) [(.ret (.cst (.bl false)))] [])]
def F36 : Fn := ⟨1, 9, [], [(.asg (.nm 1) (.dct [(.cst (.str [100, 114, 97, 119, 115])), (.call ([], [95, 108, 97, 119, 95, 100, 114, 97, 119, 115]) [(.var 0), (.cst (.int 900))]), (.cst (.str [97, 116])), (.cst (.int 0))])),
    (.asg (.nm 2) (.blt .tuple [(.comp [6] (.nm 6) (.rng1 (.bin .Add (.cst (.int 1)) (.call ([], [95, 108, 97, 119, 95, 110, 101, 120, 116]) [(.var 1), (.cst (.int 4))]))) none X36_0)])),
    (.asg (.nm 3) (.blt .tuple [(.comp [6] (.nm 6) (.rng1 (.bin .Add (.cst (.int 1)) (.call ([], [95, 108, 97, 119, 95, 110, 101, 120, 116]) [(.var 1), (.cst (.int 4))]))) none X36_1)])),
    (.asg (.nm 4) (.make [77, 97, 99, 104, 105, 110, 101] ([77, 97, 99, 104, 105, 110, 101], [95, 95, 105, 110, 105, 116, 95, 95]) [(.var 2), (.var 3)])),
    (.asg (.nm 5) (.call ([], [95, 108, 97, 119, 95, 109, 111, 100, 101, 108]) [(.var 2), (.var 3)])),
    (.ite (.cmp .NotEq (.mth (.var 4) [115, 116, 97, 116, 101] []) (.call ([], [95, 108, 97, 119, 95, 115, 116, 97, 116, 101]) [(.var 5)])) [(.ret (.cst (.bl false)))] []),
    (.each (.nm 6) (.rng1 (.bin .Add (.cst (.int 40)) (.call ([], [95, 108, 97, 119, 95, 110, 101, 120, 116]) [(.var 1), (.cst (.int 121))]))) B36_2),
    (.ret (.cmp .Eq (.mth (.var 4) [115, 116, 97, 116, 101] []) (.call ([], [95, 108, 97, 119, 95, 115, 116, 97, 116, 101]) [(.var 5)])))]⟩
def d36 : PDef := ⟨([], [108, 97, 119]), F36, (top 25), ["_law_script", "_law_w", "_law_programs", "_law_rates", "_law_machine", "_law_m", "_law_k", "_law_pick_here", "_law_views"], ["_law_script"], []⟩
def prg : Prg := ⟨[d0, d1, d2, d3, d4, d5, d6, d7, d8, d9, d10, d11, d12, d13, d14, d15, d16, d17, d18, d19, d20, d21, d22, d23, d24, d25, d26, d27, d28, d29, d30, d31, d32, d33, d34, d35, d36], [([84, 104, 114, 101, 97, 100], [[112, 105, 100], [112, 99], [114, 101, 103, 115], [99, 111, 110, 100, 105, 116, 105, 111, 110], [99, 97, 108, 108]], [[95, 95, 105, 110, 105, 116, 95, 95]]), ([77, 97, 99, 104, 105, 110, 101], [[109, 101, 109, 111, 114, 105, 101, 115], [114, 97, 116, 101, 115], [116, 105, 109, 101, 115], [114, 117, 110, 110, 105, 110, 103], [116, 104, 114, 101, 97, 100, 115], [114, 101, 97, 100, 121], [118, 97, 108, 117, 101], [114, 101, 113, 117, 101, 115, 116, 115], [118, 105, 101, 119, 115]], [[95, 95, 105, 110, 105, 116, 95, 95], [115, 116, 97, 116, 101], [109, 101, 109, 111, 114, 121], [98, 121, 116, 101], [112, 117, 116, 95, 98, 121, 116, 101], [105, 115, 95, 116, 111, 108, 100], [116, 101, 108, 108], [98, 101, 103, 105, 110, 95, 116, 104, 114, 101, 97, 100], [108, 101, 97, 118, 101], [103, 105, 118, 101, 95, 98, 97, 99, 107], [101, 110, 100, 95, 116, 104, 114, 101, 97, 100], [115, 116, 101, 112], [97, 110, 115, 119, 101, 114], [103, 111, 95, 111, 110], [105, 110, 115, 116, 114, 117, 99, 116, 105, 111, 110], [119, 111, 114, 107], [119, 97, 121], [99, 97, 108, 108], [110, 101, 119, 95, 116, 104, 114, 101, 97, 100], [119, 97, 105, 116, 95, 102, 111, 114]])], [[108, 101, 110], [97, 98, 115], [105, 110, 116], [116, 117, 112, 108, 101], [108, 105, 115, 116], [105, 115, 105, 110, 115, 116, 97, 110, 99, 101], [114, 97, 110, 103, 101], [122, 105, 112]], [([83, 73, 90, 69], (.int (256))), ([87, 79, 82, 68], (.int (65536))), ([78, 79, 78, 69], (.int (65535))), ([84, 72, 82, 69, 65, 68, 83], (.int (8))), ([76, 69, 78, 71, 84, 72, 83], (.tup [(.int (1)), (.int (3)), (.int (2)), (.int (2)), (.int (2)), (.int (2)), (.int (2)), (.int (2)), (.int (3)), (.int (3)), (.int (2)), (.int (2)), (.int (1))])), ([82, 69, 65, 68, 89], (.tup [(.str [114, 101, 97, 100, 121])]))], []⟩
/-! where each def stands -/
theorem P0 : prg.P ([84, 104, 114, 101, 97, 100], [95, 95, 105, 110, 105, 116, 95, 95]) = some F0 := rfl
theorem P1 : prg.P ([77, 97, 99, 104, 105, 110, 101], [95, 95, 105, 110, 105, 116, 95, 95]) = some F1 := rfl
theorem P2 : prg.P ([77, 97, 99, 104, 105, 110, 101], [115, 116, 97, 116, 101]) = some F2 := rfl
theorem P3 : prg.P ([77, 97, 99, 104, 105, 110, 101], [109, 101, 109, 111, 114, 121]) = some F3 := rfl
theorem P4 : prg.P ([77, 97, 99, 104, 105, 110, 101], [98, 121, 116, 101]) = some F4 := rfl
theorem P5 : prg.P ([77, 97, 99, 104, 105, 110, 101], [112, 117, 116, 95, 98, 121, 116, 101]) = some F5 := rfl
theorem P6 : prg.P ([77, 97, 99, 104, 105, 110, 101], [105, 115, 95, 116, 111, 108, 100]) = some F6 := rfl
theorem P7 : prg.P ([77, 97, 99, 104, 105, 110, 101], [116, 101, 108, 108]) = some F7 := rfl
theorem P8 : prg.P ([77, 97, 99, 104, 105, 110, 101], [98, 101, 103, 105, 110, 95, 116, 104, 114, 101, 97, 100]) = some F8 := rfl
theorem P9 : prg.P ([77, 97, 99, 104, 105, 110, 101], [108, 101, 97, 118, 101]) = some F9 := rfl
theorem P10 : prg.P ([77, 97, 99, 104, 105, 110, 101], [103, 105, 118, 101, 95, 98, 97, 99, 107]) = some F10 := rfl
theorem P11 : prg.P ([77, 97, 99, 104, 105, 110, 101], [101, 110, 100, 95, 116, 104, 114, 101, 97, 100]) = some F11 := rfl
theorem P12 : prg.P ([77, 97, 99, 104, 105, 110, 101], [115, 116, 101, 112]) = some F12 := rfl
theorem P13 : prg.P ([77, 97, 99, 104, 105, 110, 101], [97, 110, 115, 119, 101, 114]) = some F13 := rfl
theorem P14 : prg.P ([77, 97, 99, 104, 105, 110, 101], [103, 111, 95, 111, 110]) = some F14 := rfl
theorem P15 : prg.P ([77, 97, 99, 104, 105, 110, 101], [105, 110, 115, 116, 114, 117, 99, 116, 105, 111, 110]) = some F15 := rfl
theorem P16 : prg.P ([77, 97, 99, 104, 105, 110, 101], [119, 111, 114, 107]) = some F16 := rfl
theorem P17 : prg.P ([77, 97, 99, 104, 105, 110, 101], [119, 97, 121]) = some F17 := rfl
theorem P18 : prg.P ([77, 97, 99, 104, 105, 110, 101], [99, 97, 108, 108]) = some F18 := rfl
theorem P19 : prg.P ([77, 97, 99, 104, 105, 110, 101], [110, 101, 119, 95, 116, 104, 114, 101, 97, 100]) = some F19 := rfl
theorem P20 : prg.P ([77, 97, 99, 104, 105, 110, 101], [119, 97, 105, 116, 95, 102, 111, 114]) = some F20 := rfl
theorem P21 : prg.P ([], [95, 108, 97, 119, 95, 100, 114, 97, 119, 115]) = some F21 := rfl
theorem P22 : prg.P ([], [95, 108, 97, 119, 95, 110, 101, 120, 116]) = some F22 := rfl
theorem P23 : prg.P ([], [95, 108, 97, 119, 95, 112, 114, 111, 103, 114, 97, 109]) = some F23 := rfl
theorem P24 : prg.P ([], [95, 108, 97, 119, 95, 112, 105, 99, 107]) = some F24 := rfl
theorem P25 : prg.P ([], [95, 108, 97, 119, 95, 109, 111, 100, 101, 108]) = some F25 := rfl
theorem P26 : prg.P ([], [95, 108, 97, 119, 95, 98, 101, 103, 105, 110]) = some F26 := rfl
theorem P27 : prg.P ([], [95, 108, 97, 119, 95, 116, 101, 108, 108]) = some F27 := rfl
theorem P28 : prg.P ([], [95, 108, 97, 119, 95, 114, 101, 116, 117, 114, 110, 115]) = some F28 := rfl
theorem P29 : prg.P ([], [95, 108, 97, 119, 95, 111, 102, 102]) = some F29 := rfl
theorem P30 : prg.P ([], [95, 108, 97, 119, 95, 101, 110, 100, 115]) = some F30 := rfl
theorem P31 : prg.P ([], [95, 108, 97, 119, 95, 99, 97, 108, 108]) = some F31 := rfl
theorem P32 : prg.P ([], [95, 108, 97, 119, 95, 105, 110, 115, 116, 114, 117, 99, 116, 105, 111, 110]) = some F32 := rfl
theorem P33 : prg.P ([], [95, 108, 97, 119, 95, 115, 116, 101, 112]) = some F33 := rfl
theorem P34 : prg.P ([], [95, 108, 97, 119, 95, 115, 116, 97, 116, 101]) = some F34 := rfl
theorem P35 : prg.P ([], [95, 108, 97, 119, 95, 108, 111, 110, 103, 101, 114]) = some F35 := rfl
theorem P36 : prg.P ([], [108, 97, 119]) = some F36 := rfl

/-! ### each def is read as its row of the table says -/
theorem ok0 : DOk prg d0 := .of (C8.fnScope_by (by kernel_rfl)) ⟨39, 40, by kernel_rfl⟩ rfl rfl rfl rfl fun _ _ _ _ _ _ us hl => match us, hl with | [_, _, _, _], _ => rfl
theorem ok1 : DOk prg d1 := .of (C8.fnScope_by (by kernel_rfl)) ⟨39, 40, by kernel_rfl⟩ rfl rfl rfl rfl fun _ _ _ _ _ _ us hl => match us, hl with | [_, _, _], _ => rfl
theorem ok2 : DOk prg d2 := .of (C8.fnScope_by (by kernel_rfl)) ⟨39, 40, by kernel_rfl⟩ rfl rfl rfl rfl fun _ _ _ _ _ _ us hl => match us, hl with | [_], _ => rfl
theorem ok3 : DOk prg d3 := .of (C8.fnScope_by (by kernel_rfl)) ⟨39, 40, by kernel_rfl⟩ rfl rfl rfl rfl fun _ _ _ _ _ _ us hl => match us, hl with | [_, _], _ => rfl
theorem ok4 : DOk prg d4 := .of (C8.fnScope_by (by kernel_rfl)) ⟨39, 40, by kernel_rfl⟩ rfl rfl rfl rfl fun _ _ _ _ _ _ us hl => match us, hl with | [_, _, _], _ => rfl
theorem ok5 : DOk prg d5 := .of (C8.fnScope_by (by kernel_rfl)) ⟨39, 40, by kernel_rfl⟩ rfl rfl rfl rfl fun _ _ _ _ _ _ us hl => match us, hl with | [_, _, _, _], _ => rfl
theorem ok6 : DOk prg d6 := .of (C8.fnScope_by (by kernel_rfl)) ⟨39, 40, by kernel_rfl⟩ rfl rfl rfl rfl fun _ _ _ _ _ _ us hl => match us, hl with | [_, _, _], _ => rfl
theorem ok7 : DOk prg d7 := .of (C8.fnScope_by (by kernel_rfl)) ⟨39, 40, by kernel_rfl⟩ rfl rfl rfl rfl fun _ _ _ _ _ _ us hl => match us, hl with | [_, _, _, _, _, _], _ => rfl
theorem ok8 : DOk prg d8 := .of (C8.fnScope_by (by kernel_rfl)) ⟨39, 40, by kernel_rfl⟩ rfl rfl rfl rfl fun _ _ _ _ _ _ us hl => match us, hl with | [_, _, _, _], _ => rfl
theorem ok9 : DOk prg d9 := .of (C8.fnScope_by (by kernel_rfl)) ⟨39, 40, by kernel_rfl⟩ rfl rfl rfl rfl fun _ _ _ _ _ _ us hl => match us, hl with | [_, _, _, _, _], _ => rfl
theorem ok10 : DOk prg d10 := .of (C8.fnScope_by (by kernel_rfl)) ⟨39, 40, by kernel_rfl⟩ rfl rfl rfl rfl fun _ _ _ _ _ _ us hl => match us, hl with | [_, _, _, _], _ => rfl
theorem ok11 : DOk prg d11 := .of (C8.fnScope_by (by kernel_rfl)) ⟨39, 40, by kernel_rfl⟩ rfl rfl rfl rfl fun _ _ _ _ _ _ us hl => match us, hl with | [_, _, _, _, _], _ => rfl
theorem ok12 : DOk prg d12 := .of (C8.fnScope_by (by kernel_rfl)) ⟨39, 40, by kernel_rfl⟩ rfl rfl rfl rfl fun _ _ _ _ _ _ us hl => match us, hl with | [_, _], _ => rfl
theorem ok13 : DOk prg d13 := .of (C8.fnScope_by (by kernel_rfl)) ⟨39, 40, by kernel_rfl⟩ rfl rfl rfl rfl fun _ _ _ _ _ _ us hl => match us, hl with | [_, _], _ => rfl
theorem ok14 : DOk prg d14 := .of (C8.fnScope_by (by kernel_rfl)) ⟨39, 40, by kernel_rfl⟩ rfl rfl rfl rfl fun _ _ _ _ _ _ us hl => match us, hl with | [_, _], _ => rfl
theorem ok15 : DOk prg d15 := .of (C8.fnScope_by (by kernel_rfl)) ⟨39, 40, by kernel_rfl⟩ rfl rfl rfl rfl fun _ _ _ _ _ _ us hl => match us, hl with | [_, _, _], _ => rfl
theorem ok16 : DOk prg d16 := .of (C8.fnScope_by (by kernel_rfl)) ⟨39, 40, by kernel_rfl⟩ rfl rfl rfl rfl fun _ _ _ _ _ _ us hl => match us, hl with | [_, _, _, _], _ => rfl
theorem ok17 : DOk prg d17 := .of (C8.fnScope_by (by kernel_rfl)) ⟨39, 40, by kernel_rfl⟩ rfl rfl rfl rfl fun _ _ _ _ _ _ us hl => match us, hl with | [_, _, _, _, _], _ => rfl
theorem ok18 : DOk prg d18 := .of (C8.fnScope_by (by kernel_rfl)) ⟨39, 40, by kernel_rfl⟩ rfl rfl rfl rfl fun _ _ _ _ _ _ us hl => match us, hl with | [_, _, _, _, _], _ => rfl
theorem ok19 : DOk prg d19 := .of (C8.fnScope_by (by kernel_rfl)) ⟨39, 40, by kernel_rfl⟩ rfl rfl rfl rfl fun _ _ _ _ _ _ us hl => match us, hl with | [_, _, _], _ => rfl
theorem ok20 : DOk prg d20 := .of (C8.fnScope_by (by kernel_rfl)) ⟨39, 40, by kernel_rfl⟩ rfl rfl rfl rfl fun _ _ _ _ _ _ us hl => match us, hl with | [_, _, _, _], _ => rfl
theorem ok21 : DOk prg d21 := .of (C8.fnScope_by (by kernel_rfl)) ⟨39, 40, by kernel_rfl⟩ rfl rfl rfl rfl fun _ _ _ _ _ _ us hl => match us, hl with | [_, _], _ => rfl
theorem ok22 : DOk prg d22 := .of (C8.fnScope_by (by kernel_rfl)) ⟨39, 40, by kernel_rfl⟩ rfl rfl rfl rfl fun _ _ _ _ _ _ us hl => match us, hl with | [_, _], _ => rfl
theorem ok23 : DOk prg d23 := .of (C8.fnScope_by (by kernel_rfl)) ⟨39, 40, by kernel_rfl⟩ rfl rfl rfl rfl fun _ _ _ _ _ _ us hl => match us, hl with | [_], _ => rfl
theorem ok24 : DOk prg d24 := .of (C8.fnScope_by (by kernel_rfl)) ⟨39, 40, by kernel_rfl⟩ rfl rfl rfl rfl fun _ _ _ _ _ _ us hl => match us, hl with | [_, _], _ => rfl
theorem ok25 : DOk prg d25 := .of (C8.fnScope_by (by kernel_rfl)) ⟨39, 40, by kernel_rfl⟩ rfl rfl rfl rfl fun _ _ _ _ _ _ us hl => match us, hl with | [_, _], _ => rfl
theorem ok26 : DOk prg d26 := .of (C8.fnScope_by (by kernel_rfl)) ⟨39, 40, by kernel_rfl⟩ rfl rfl rfl rfl fun _ _ _ _ _ _ us hl => match us, hl with | [_, _, _, _], _ => rfl
theorem ok27 : DOk prg d27 := .of (C8.fnScope_by (by kernel_rfl)) ⟨39, 40, by kernel_rfl⟩ rfl rfl rfl rfl fun _ _ _ _ _ _ us hl => match us, hl with | [_, _, _, _, _, _], _ => rfl
theorem ok28 : DOk prg d28 := .of (C8.fnScope_by (by kernel_rfl)) ⟨39, 40, by kernel_rfl⟩ rfl rfl rfl rfl fun _ _ _ _ _ _ us hl => match us, hl with | [_, _, _, _], _ => rfl
theorem ok29 : DOk prg d29 := .of (C8.fnScope_by (by kernel_rfl)) ⟨39, 40, by kernel_rfl⟩ rfl rfl rfl rfl fun _ _ _ _ _ _ us hl => match us, hl with | [_, _, _, _, _], _ => rfl
theorem ok30 : DOk prg d30 := .of (C8.fnScope_by (by kernel_rfl)) ⟨39, 40, by kernel_rfl⟩ rfl rfl rfl rfl fun _ _ _ _ _ _ us hl => match us, hl with | [_, _, _, _, _], _ => rfl
theorem ok31 : DOk prg d31 := .of (C8.fnScope_by (by kernel_rfl)) ⟨39, 40, by kernel_rfl⟩ rfl rfl rfl rfl fun _ _ _ _ _ _ us hl => match us, hl with | [_, _, _, _, _], _ => rfl
theorem ok32 : DOk prg d32 := .of (C8.fnScope_by (by kernel_rfl)) ⟨39, 40, by kernel_rfl⟩ rfl rfl rfl rfl fun _ _ _ _ _ _ us hl => match us, hl with | [_, _, _], _ => rfl
theorem ok33 : DOk prg d33 := .of (C8.fnScope_by (by kernel_rfl)) ⟨39, 40, by kernel_rfl⟩ rfl rfl rfl rfl fun _ _ _ _ _ _ us hl => match us, hl with | [_, _], _ => rfl
theorem ok34 : DOk prg d34 := .of (C8.fnScope_by (by kernel_rfl)) ⟨39, 40, by kernel_rfl⟩ rfl rfl rfl rfl fun _ _ _ _ _ _ us hl => match us, hl with | [_], _ => rfl
theorem ok35 : DOk prg d35 := .of (C8.fnScope_by (by kernel_rfl)) ⟨39, 40, by kernel_rfl⟩ rfl rfl rfl rfl fun _ _ _ _ _ _ us hl => match us, hl with | [_, _], _ => rfl
theorem ok36 : DOk prg d36 := .of (C8.fnScope_by (by kernel_rfl)) ⟨39, 40, by kernel_rfl⟩ rfl rfl rfl rfl fun _ _ _ _ _ _ us hl => match us, hl with | [_], _ => rfl
theorem oks : ∀ d ∈ prg.defs, DOk prg d := by
  show ∀ d ∈ [d0, d1, d2, d3, d4, d5, d6, d7, d8, d9, d10, d11, d12, d13, d14, d15, d16, d17, d18, d19, d20, d21, d22, d23, d24, d25, d26, d27, d28, d29, d30, d31, d32, d33, d34, d35, d36], DOk prg d
  refine List.forall_mem_cons.mpr ⟨ok0, ?_⟩
  refine List.forall_mem_cons.mpr ⟨ok1, ?_⟩
  refine List.forall_mem_cons.mpr ⟨ok2, ?_⟩
  refine List.forall_mem_cons.mpr ⟨ok3, ?_⟩
  refine List.forall_mem_cons.mpr ⟨ok4, ?_⟩
  refine List.forall_mem_cons.mpr ⟨ok5, ?_⟩
  refine List.forall_mem_cons.mpr ⟨ok6, ?_⟩
  refine List.forall_mem_cons.mpr ⟨ok7, ?_⟩
  refine List.forall_mem_cons.mpr ⟨ok8, ?_⟩
  refine List.forall_mem_cons.mpr ⟨ok9, ?_⟩
  refine List.forall_mem_cons.mpr ⟨ok10, ?_⟩
  refine List.forall_mem_cons.mpr ⟨ok11, ?_⟩
  refine List.forall_mem_cons.mpr ⟨ok12, ?_⟩
  refine List.forall_mem_cons.mpr ⟨ok13, ?_⟩
  refine List.forall_mem_cons.mpr ⟨ok14, ?_⟩
  refine List.forall_mem_cons.mpr ⟨ok15, ?_⟩
  refine List.forall_mem_cons.mpr ⟨ok16, ?_⟩
  refine List.forall_mem_cons.mpr ⟨ok17, ?_⟩
  refine List.forall_mem_cons.mpr ⟨ok18, ?_⟩
  refine List.forall_mem_cons.mpr ⟨ok19, ?_⟩
  refine List.forall_mem_cons.mpr ⟨ok20, ?_⟩
  refine List.forall_mem_cons.mpr ⟨ok21, ?_⟩
  refine List.forall_mem_cons.mpr ⟨ok22, ?_⟩
  refine List.forall_mem_cons.mpr ⟨ok23, ?_⟩
  refine List.forall_mem_cons.mpr ⟨ok24, ?_⟩
  refine List.forall_mem_cons.mpr ⟨ok25, ?_⟩
  refine List.forall_mem_cons.mpr ⟨ok26, ?_⟩
  refine List.forall_mem_cons.mpr ⟨ok27, ?_⟩
  refine List.forall_mem_cons.mpr ⟨ok28, ?_⟩
  refine List.forall_mem_cons.mpr ⟨ok29, ?_⟩
  refine List.forall_mem_cons.mpr ⟨ok30, ?_⟩
  refine List.forall_mem_cons.mpr ⟨ok31, ?_⟩
  refine List.forall_mem_cons.mpr ⟨ok32, ?_⟩
  refine List.forall_mem_cons.mpr ⟨ok33, ?_⟩
  refine List.forall_mem_cons.mpr ⟨ok34, ?_⟩
  refine List.forall_mem_cons.mpr ⟨ok35, ?_⟩
  refine List.forall_mem_cons.mpr ⟨ok36, ?_⟩
  intro d m
  cases m
abbrev Rw : PySem.W.OpenRow := PySem.W.OpenLaw.row PySem.Challenge.rw_tapline_k60_the_machine_pick_by_pick
abbrev hkw : PySem.W.Hook := Z.hookZ 6 prg
def obw (s : PySem.W.SharedT) : Z.AlZ := Z.obsZG 6 prg (HandSHeadRun.getT s)
theorem obw_eq (s : PySem.W.SharedT) : obw s = hkw.obs s.abs :=
  Z.obsZG_eq (HandSHeadRun.getT_eq s)
theorem runw (w : World) : HandSHeadRun.RunEq Rw (PySem.W.view Rw.prog [25]) hkw obw 4000 ["__name__", "SIZE", "WORD", "NONE", "THREADS", "LENGTHS", "READY", "Thread", "Machine", "_law_draws", "_law_next", "_law_program", "_law_pick", "_law_model", "_law_begin", "_law_tell", "_law_returns", "_law_off", "_law_ends", "_law_call", "_law_instruction", "_law_step", "_law_state", "_law_longer"] w := by
  intro os
  kernel_rfl
/-- what is left: the small language's answer -/
def Asks : Prop := ∀ ns : List Int, ns.length ≤ 63 → ∃ h', runK prg.P prg.tb 30 F36 [.rol (ns.map D.int)] [] = .ok (.bl true) h'
theorem cls_ne : ∀ c q, clsOf prg.cls c = some q → c ≠ [] := by
  intro c q e z
  subst z
  revert e
  have : clsOf prg.cls [] = none := by kernel_rfl
  rw [this]
  exact fun e => nomatch e

end Zl

open PySem PySem.W PySem.Calls PyProof.Rows in
theorem Zl.holds_of (hm : Zl.Asks) : PySem.Challenge.rw_tapline_k60_the_machine_pick_by_pick.Holds := by
  w_on; o_law
  refine HandSHeadRun.head_any
    (r := OpenLaw.row PySem.Challenge.rw_tapline_k60_the_machine_pick_by_pick)
    (q := view (OpenLaw.row PySem.Challenge.rw_tapline_k60_the_machine_pick_by_pick).prog [25])
    (H := Zl.hkw) (ob := Zl.obw) (M := 4000)
    (loose := ["__name__", "SIZE", "WORD", "NONE", "THREADS", "LENGTHS", "READY", "Thread", "Machine", "_law_draws", "_law_next", "_law_program", "_law_pick", "_law_model", "_law_begin", "_law_tell", "_law_returns", "_law_off", "_law_ends", "_law_call", "_law_instruction", "_law_step", "_law_state", "_law_longer"])
    (d := HandSHeadRun.topDef (OpenLaw.row PySem.Challenge.rw_tapline_k60_the_machine_pick_by_pick).prog 25)
    (kwd := []) Zl.obw_eq
    (by kernel_rfl) (fun s => by kernel_rfl)
    Zl.runw (by kernel_rfl) (by kernel_rfl)
    (by kernel_rfl) (by rfl)
    (by first | assumption | decide +kernel)
    (by decide +kernel)
    ⟨rfl, rfl, rfl, rfl, rfl, by decide +kernel⟩ ?hw ?hc
  case hw => w_witness2
  case hc =>
    refine Z.walkW (l := PySem.Challenge.rw_tapline_k60_the_machine_pick_by_pick)
      (n := 63) (k := 2 * 30) (x := "_law_script")
      rfl (by decide) (by kernel_rfl)
      ⟨rfl, by decide, by decide⟩ ?F
    intro w mg f h Y G hmg
    obtain ⟨K, KX, c⟩ := Y
    have e : (HandSHeadRun.topDef (OpenLaw.row PySem.Challenge.rw_tapline_k60_the_machine_pick_by_pick).prog 25).name = Z.toS Zl.d36.id.2 := by kernel_rfl
    rw [e] at hmg
    refine Z.law_end (p := Zl.prg) (dl := Zl.d36) (k := 30) KX G c Zl.cls_ne Zl.oks ?_ rfl rfl rfl hmg ?_ 63 hm
    · show Zl.d36 ∈ [Zl.d0, Zl.d1, Zl.d2, Zl.d3, Zl.d4, Zl.d5, Zl.d6, Zl.d7, Zl.d8, Zl.d9, Zl.d10, Zl.d11, Zl.d12, Zl.d13, Zl.d14, Zl.d15, Zl.d16, Zl.d17, Zl.d18, Zl.d19, Zl.d20, Zl.d21, Zl.d22, Zl.d23, Zl.d24, Zl.d25, Zl.d26, Zl.d27, Zl.d28, Zl.d29, Zl.d30, Zl.d31, Zl.d32, Zl.d33, Zl.d34, Zl.d35, Zl.d36]
      simp
    · exact fun _ _ _ _ _ _ us hl => match us, hl with | [_], _ => rfl


namespace Zl
open PySem Z
/-! MA: the machine, as plain data; how it lies in the heap (the program's: w = true, the law's: w = false). -/
abbrev C (k : Nat) : Fid → List D → Hh → Res D := callG prg.P (runK prg.P prg.tb k)
theorem wcall {k : Nat} {f : Fid} {F : Fn} {args : List D} {h : Hh} {Q : D → Hh → Prop} {X : XX} (hP : prg.P f = some F) (hd : F.dfl = []) (hn : args.length = F.np)
    (w : Wp (xss (C k) prg.tb F.body (args.map some ++ List.replicate (F.ns - args.length) none) h) (RetQ Q X) fun _ _ _ => False) : Wp (C (k + 1) f args h) Q X := wp_call hP hd hn w
theorem fm {i m : Int} (h : 0 < m) : 0 ≤ i.fmod m ∧ i.fmod m < m := ⟨Int.fmod_nonneg_of_pos i h, Int.fmod_lt_of_pos i h⟩
theorem ix_nat {n i : Nat} (h : i < n) : L2.ixN n (i : Int) = some i := by
  unfold L2.ixN
  rw [if_pos (by omega), if_pos (by omega)]
  simp
theorem at_nat {α : Type} {l : List α} {i : Nat} : L2.atI l (i : Int) = l[i]? := by rw [at_pos (by omega)]; simp
/-! ### objects by roles -/
inductive Ro where
  | m | mems | times | runs | ths | ready | reqs | views | dev
  | mem (i : Nat) | th (i : Nat) | rg (i : Nat)
  deriving DecidableEq
/-- objects stand at their places, all apart, and the foreign ones F stay -/
structure Re (F : Nat → Option O) (ad : Ro → Nat) (act : Ro → Prop) (ob : Ro → O) (h : Hh) : Prop where
  at_ : ∀ k, act k → h[ad k]? = some (ob k)
  inj : ∀ j k, act j → act k → ad j = ad k → j = k
  nf : ∀ k, act k → F (ad k) = none
  fo : ∀ n o, F n = some o → h[n]? = some o
section
variable {F : Nat → Option O} {ad : Ro → Nat} {act act' : Ro → Prop} {ob ob' : Ro → O} {h : Hh}
theorem Re.set (R : Re F ad act ob h) (k : Ro) (a : act k) {o : O} (ea : ∀ j, act' j ↔ act j) (e : ∀ j, act j → j ≠ k → ob' j = ob j) (ek : ob' k = o) : Re F ad act' ob' (h.set (ad k) o) where
  at_ := fun j aj => by
    have aj := (ea j).mp aj
    by_cases q : j = k
    · subst q; rw [get_set (R.at_ j aj), ek]
    · rw [get_ne fun z => q (R.inj k j a aj z).symm, R.at_ j aj, e j aj q]
  inj := fun j k aj ak => R.inj j k ((ea j).mp aj) ((ea k).mp ak)
  nf := fun j aj => R.nf j ((ea j).mp aj)
  fo := fun n o' e => by
    rw [get_ne fun z => by have := R.nf k a; rw [z, e] at this; cases this]
    exact R.fo n o' e
theorem Re.app (R : Re F ad act ob h) (l : List O) : Re F ad act ob (h ++ l) where
  at_ := fun j aj => get_app l (R.at_ j aj)
  inj := R.inj
  nf := R.nf
  fo := fun n o e => get_app l (R.fo n o e)
theorem Re.cong (R : Re F ad act ob h) (ea : ∀ j, act' j ↔ act j) (e : ∀ j, act j → ob' j = ob j) : Re F ad act' ob' h where
  at_ := fun j aj => by rw [R.at_ j ((ea j).mp aj), e j ((ea j).mp aj)]
  inj := fun j k aj ak => R.inj j k ((ea j).mp aj) ((ea k).mp ak)
  nf := fun j aj => R.nf j ((ea j).mp aj)
  fo := R.fo
def upA (ad : Ro → Nat) (k : Ro) (n : Nat) : Ro → Nat := fun j => if j = k then n else ad j
theorem upA_eq {k : Ro} {n : Nat} : upA ad k n k = n := if_pos rfl
theorem upA_ne {j k : Ro} {n : Nat} (e : j ≠ k) : upA ad k n j = ad j := if_neg e
/-- the role k goes to n, where its object stands -/
theorem Re.move (R : Re F ad act ob h) (k : Ro) {n : Nat} (ea : ∀ j, act' j → j ≠ k → act j) (hn : h[n]? = some (ob' k)) (fr : ∀ j, act j → ad j ≠ n) (nF : F n = none) (e : ∀ j, act j → j ≠ k → ob' j = ob j) : Re F (upA ad k n) act' ob' h where
  at_ := fun j aj => by
    by_cases q : j = k
    · subst q; rw [upA_eq, hn]
    · rw [upA_ne q, R.at_ j (ea j aj q), e j (ea j aj q) q]
  inj := fun i j ai aj z => by
    by_cases qi : i = k
    · by_cases qj : j = k
      · rw [qi, qj]
      · rw [qi, upA_eq, upA_ne qj] at z
        exact absurd z.symm (fr j (ea j aj qj))
    · by_cases qj : j = k
      · rw [qj, upA_eq, upA_ne qi] at z
        exact absurd z (fr i (ea i ai qi))
      · rw [upA_ne qi, upA_ne qj] at z
        exact R.inj i j (ea i ai qi) (ea j aj qj) z
  nf := fun j aj => by
    by_cases q : j = k
    · subst q; rw [upA_eq]; exact nF
    · rw [upA_ne q]; exact R.nf j (ea j aj q)
  fo := R.fo
theorem Re.lt (R : Re F ad act ob h) {k : Ro} (a : act k) : ad k < h.length := lt_of (R.at_ k a)
theorem Re.nfL (R : Re F ad act ob h) {n : Nat} (hn : h.length ≤ n) : F n = none := by
  cases e : F n with
  | none => rfl
  | some o => have := lt_of (R.fo n o e); omega
/-- .. to a new object -/
theorem Re.new (R : Re F ad act ob h) (k : Ro) (ea : ∀ j, act' j → j ≠ k → act j) {o : O} (ek : ob' k = o) (e : ∀ j, act j → j ≠ k → ob' j = ob j) : Re F (upA ad k h.length) act' ob' (h ++ [o]) :=
  (R.app [o]).move k ea (by rw [ek]; exact get_new) (fun j aj => by have := R.lt aj; omega) (R.nfL (Nat.le_refl _)) e
end
/-! ### the machine -/
inductive Cond where
  | ready | running (c : Nat) | sleeping (c : Nat) (t : Int) | asking | waiting (t : Int) | ended (c : Int)
  deriving DecidableEq
def Cond.d : Cond → D
  | .ready => .tup [.str [114, 101, 97, 100, 121]]
  | .running c => .tup [.str [114, 117, 110, 110, 105, 110, 103], .int c]
  | .sleeping c t => .tup [.str [115, 108, 101, 101, 112, 105, 110, 103], .int c, .int t]
  | .asking => .tup [.str [97, 115, 107, 105, 110, 103]]
  | .waiting t => .tup [.str [119, 97, 105, 116, 105, 110, 103], .int t]
  | .ended c => .tup [.str [101, 110, 100, 101, 100], .int c]
structure Th where
  pid : Nat
  pc : Int
  regs : List Int
  cond : Cond
  c0 : Int
  c1 : Int
structure Vw where
  kind : Nm
  cpu : Int
  time : Int
  pid : Int
  tid : Int
  at_ : Int
  args : List Int
  regs : List Int
  mem : List Int
  bad : Bool
def tI (l : List Int) : D := .tup (l.map .int)
def Vw.d (v : Vw) : D := if v.bad = true then .str [99, 104, 97, 110, 103, 101, 100] else .tup [.tup [.str v.kind, .int v.cpu, .int v.time, .int v.pid, .int v.tid, .int v.at_, tI v.args], tI v.regs, tI v.mem]
structure Rq where
  tid : Nat
  call : Int
  num : Int
def Rq.d (q : Rq) : D := .tup [.int q.tid, .int q.call, .int q.num]
structure Ms where
  mems : List (List Int)
  rates : List Int
  times : List Int
  runs : List Int
  ths : List Th
  ready : List Nat
  value : Int
  reqs : List Rq
  views : List Vw
def dft : Th := ⟨0, 0, [], .ready, 0, 0⟩
def Ms.th (s : Ms) (i : Nat) : Th := s.ths.getD i dft
def Ms.run (s : Ms) (i : Nat) : Int := s.runs.getD i 0
def Ms.time (s : Ms) (i : Nat) : Int := s.times.getD i 0
def Ms.rate (s : Ms) (i : Nat) : Int := s.rates.getD i 0
def thO (w : Bool) (r : Nat) (t : Th) : O := match w with
  | true => .ins [84, 104, 114, 101, 97, 100] [([112, 105, 100], .int t.pid), ([112, 99], .int t.pc), ([114, 101, 103, 115], .ref r), ([99, 111, 110, 100, 105, 116, 105, 111, 110], t.cond.d), ([99, 97, 108, 108], .tup [.int t.c0, .int t.c1])]
  | false => .dct [(.str [112, 105, 100], .int t.pid), (.str [112, 99], .int t.pc), (.str [114, 101, 103, 115], .ref r), (.str [105, 115], t.cond.d), (.str [99, 97, 108, 108], .tup [.int t.c0, .int t.c1])]
def mF (ad : Ro → Nat) (rates : List Int) (v : Int) : List (Nm × D) := [([109, 101, 109, 111, 114, 105, 101, 115], .ref (ad .mems)), ([114, 97, 116, 101, 115], tI rates), ([116, 105, 109, 101, 115], .ref (ad .times)), ([114, 117, 110, 110, 105, 110, 103], .ref (ad .runs)), ([116, 104, 114, 101, 97, 100, 115], .ref (ad .ths)), ([114, 101, 97, 100, 121], .ref (ad .ready)), ([118, 97, 108, 117, 101], .int v), ([114, 101, 113, 117, 101, 115, 116, 115], .ref (ad .reqs)), ([118, 105, 101, 119, 115], .ref (ad .views))]
def mD (ad : Ro → Nat) (rates : List Int) : List (D × D) := [(.str [109, 101, 109], .ref (ad .mems)), (.str [114, 97, 116, 101, 115], tI rates), (.str [101, 118, 101, 110, 116, 115], .ref (ad .views)), (.str [116, 105, 109, 101], .ref (ad .times)), (.str [114, 117, 110, 115], .ref (ad .runs)), (.str [116, 104, 114, 101, 97, 100, 115], .ref (ad .ths)), (.str [114, 101, 97, 100, 121], .ref (ad .ready)), (.str [100, 101, 118, 105, 99, 101], .ref (ad .dev))]
def mO (w : Bool) (ad : Ro → Nat) (rates : List Int) (v : Int) : O := match w with
  | true => .ins [77, 97, 99, 104, 105, 110, 101] (mF ad rates v)
  | false => .dct (mD ad rates)
def refs (ad : Ro → Nat) (f : Nat → Ro) (n : Nat) : List D := (List.range n).map fun i => .ref (ad (f i))
def ob (w : Bool) (ad : Ro → Nat) (s : Ms) : Ro → O
  | .m => mO w ad s.rates s.value
  | .mems => .lst (refs ad .mem s.mems.length)
  | .times => .lst (s.times.map .int)
  | .runs => .lst (s.runs.map .int)
  | .ths => .lst (refs ad .th s.ths.length)
  | .ready => .lst (s.ready.map fun (n : Nat) => .int n)
  | .reqs => .lst (s.reqs.map Rq.d)
  | .views => .lst (s.views.map Vw.d)
  | .dev => .lst [.int s.value, .ref (ad .reqs)]
  | .mem i => .lst ((s.mems.getD i []).map .int)
  | .th i => thO w (ad (.rg i)) (s.th i)
  | .rg i => .lst ((s.th i).regs.map .int)
def act (w : Bool) (s : Ms) : Ro → Prop
  | .dev => w = false
  | .mem i => i < s.mems.length
  | .th i => i < s.ths.length
  | .rg i => i < s.ths.length
  | _ => True
abbrev MI (w : Bool) (F : Nat → Option O) (ad : Ro → Nat) (s : Ms) (h : Hh) : Prop := Re F ad (act w s) (ob w ad s) h
def Ms.up (s : Ms) (i : Nat) (t : Th) : Ms := { s with ths := s.ths.set i t }
def Ms.mup (s : Ms) (i : Nat) (m : List Int) : Ms := { s with mems := s.mems.set i m }
theorem th_up {s : Ms} {i : Nat} {t : Th} (hi : i < s.ths.length) : (s.up i t).th i = t := by
  simp [Ms.up, Ms.th, List.getD, List.getElem?_set_self hi]
theorem th_up_ne {s : Ms} {i j : Nat} {t : Th} (e : j ≠ i) : (s.up i t).th j = s.th j := by
  simp [Ms.up, Ms.th, List.getD, List.getElem?_set_ne (Ne.symm e)]
section
variable {w : Bool} {F : Nat → Option O} {ad : Ro → Nat} {s : Ms} {h : Hh} {V : D → Hh → Prop} {U : Unit → Hh → Prop} {X : XX}
theorem gtimes (I : MI w F ad s h) {l : List Int} : MI w F ad { s with times := l } (h.set (ad .times) (.lst (l.map .int))) :=
  Re.set I .times trivial (fun j => Iff.rfl) (fun j _ ne => by cases j <;> first | rfl | exact absurd rfl ne) rfl
theorem gruns (I : MI w F ad s h) {l : List Int} : MI w F ad { s with runs := l } (h.set (ad .runs) (.lst (l.map .int))) :=
  Re.set I .runs trivial (fun j => Iff.rfl) (fun j _ ne => by cases j <;> first | rfl | exact absurd rfl ne) rfl
theorem gready (I : MI w F ad s h) {l : List Nat} : MI w F ad { s with ready := l } (h.set (ad .ready) (.lst (l.map fun (n : Nat) => .int n))) :=
  Re.set I .ready trivial (fun j => Iff.rfl) (fun j _ ne => by cases j <;> first | rfl | exact absurd rfl ne) rfl
theorem greqs (I : MI w F ad s h) {l : List Rq} : MI w F ad { s with reqs := l } (h.set (ad .reqs) (.lst (l.map Rq.d))) :=
  Re.set I .reqs trivial (fun j => Iff.rfl) (fun j _ ne => by cases j <;> first | rfl | exact absurd rfl ne) rfl
theorem gviews (I : MI w F ad s h) {l : List Vw} : MI w F ad { s with views := l } (h.set (ad .views) (.lst (l.map Vw.d))) :=
  Re.set I .views trivial (fun j => Iff.rfl) (fun j _ ne => by cases j <;> first | rfl | exact absurd rfl ne) rfl
theorem act_up {i : Nat} {t : Th} (j : Ro) : act w (s.up i t) j ↔ act w s j := by
  cases j <;> simp [act, Ms.up]
theorem act_mup {i : Nat} {m : List Int} (j : Ro) : act w (s.mup i m) j ↔ act w s j := by
  cases j <;> simp [act, Ms.mup]
/-- a thread's own -/
theorem gth (I : MI w F ad s h) {i : Nat} (hi : i < s.ths.length) {t : Th} (er : t.regs = (s.th i).regs) : MI w F ad (s.up i t) (h.set (ad (.th i)) (thO w (ad (.rg i)) t)) :=
  Re.set I (.th i) hi act_up (fun j _ ne => by
    cases j with
    | th j =>
      have : j ≠ i := fun z => ne (by rw [z])
      show thO w _ ((s.up i t).th j) = _
      rw [th_up_ne this]; rfl
    | rg j =>
      by_cases z : j = i
      · subst z
        show O.lst (((s.up j t).th j).regs.map .int) = _
        rw [th_up hi, er]; rfl
      · show O.lst (((s.up i t).th j).regs.map .int) = _
        rw [th_up_ne z]; rfl
    | ths => simp [ob, Ms.up]
    | _ => rfl) (by show thO w _ ((s.up i t).th i) = _; rw [th_up hi])
/-- its registers -/
theorem grg (I : MI w F ad s h) {i : Nat} (hi : i < s.ths.length) {r : List Int} : MI w F ad (s.up i { s.th i with regs := r }) (h.set (ad (.rg i)) (.lst (r.map .int))) :=
  Re.set I (.rg i) hi act_up (fun j _ ne => by
    cases j with
    | rg j =>
      have : j ≠ i := fun z => ne (by rw [z])
      show O.lst (((s.up i _).th j).regs.map .int) = _
      rw [th_up_ne this]; rfl
    | th j =>
      by_cases z : j = i
      · subst z
        show thO w _ ((s.up j _).th j) = _
        rw [th_up hi]
        cases w <;> rfl
      · show thO w _ ((s.up i _).th j) = _
        rw [th_up_ne z]; rfl
    | ths => simp [ob, Ms.up]
    | _ => rfl) (by show O.lst (((s.up i _).th i).regs.map .int) = _; rw [th_up hi])
theorem gmem (I : MI w F ad s h) {i : Nat} (hi : i < s.mems.length) {m : List Int} : MI w F ad (s.mup i m) (h.set (ad (.mem i)) (.lst (m.map .int))) :=
  Re.set I (.mem i) hi act_mup (fun j _ ne => by
    cases j with
    | mem j =>
      have : i ≠ j := fun z => ne (by rw [z])
      simp [ob, Ms.mup, List.getD, List.getElem?_set_ne this]
    | mems => simp [ob, Ms.mup]
    | _ => rfl) (by simp [ob, Ms.mup, List.getD, List.getElem?_set_self hi])
end
end Zl

namespace Zl
open PySem Z
/-! MB: reading and writing the machine. -/
def Cond.nm : Cond → Nm
  | .ready => [114, 101, 97, 100, 121]
  | .running _ => [114, 117, 110, 110, 105, 110, 103]
  | .sleeping _ _ => [115, 108, 101, 101, 112, 105, 110, 103]
  | .asking => [97, 115, 107, 105, 110, 103]
  | .waiting _ => [119, 97, 105, 116, 105, 110, 103]
  | .ended _ => [101, 110, 100, 101, 100]
def Cond.d1 : Cond → D
  | .sleeping c _ => .tup [.str [115, 108, 101, 101, 112, 105, 110, 103], .int c]
  | c => c.d
def Cond.sl (c : Cond) (cpu : Nat) : Bool := match c with
  | .sleeping d _ => decide (d = cpu)
  | _ => false
theorem toS_beq {a b : Nm} : (toS a == toS b) = decide (a = b) := by
  by_cases e : a = b
  · subst e; simp
  · rw [decide_eq_false e]
    exact beq_eq_false_iff_ne.mpr fun z => e (toS_inj'.mp z)
theorem get_int {l : List Int} {j : Int} {h : Hh} {V : D → Hh → Prop} (h0 : 0 ≤ j) (hj : j < l.length) : (∃ d, (l.map D.int)[j.toNat]? = some d ∧ V d h) ↔ V (.int (l.getD j.toNat 0)) h := by
  have e : l[j.toNat]? = some l[j.toNat] := List.getElem?_eq_getElem (by omega)
  rw [List.getElem?_map, List.getD_eq_getElem?_getD, e]
  simp
theorem q_tup2 {h : Hh} {a b : Nm} {x y : Int} : eqD h (.tup [.str a, .int x]) (.tup [.str b, .int y]) = some (decide (a = b) && decide (x = y)) := by
  simp [eqD, pyH, mapO, PyData.eqv, PyData.eqvAll, toS_beq, toS_inj']
  rfl
theorem q_tup12 {h : Hh} {a b : Nm} {y : Int} : eqD h (.tup [.str a]) (.tup [.str b, .int y]) = some false := by
  simp [eqD, pyH, mapO, PyData.eqv, PyData.eqvAll, toS_beq, toS_inj']
theorem q_tup21 {h : Hh} {a b : Nm} {y : Int} : eqD h (.tup [.str b, .int y]) (.tup [.str a]) = some false := by
  simp [eqD, pyH, mapO, PyData.eqv, PyData.eqvAll, toS_beq, toS_inj']
theorem q_tup31 {h : Hh} {a b : Nm} {y z : Int} : eqD h (.tup [.str b, .int y, .int z]) (.tup [.str a]) = some false := by
  simp [eqD, pyH, mapO, PyData.eqv, PyData.eqvAll, toS_beq, toS_inj']
theorem q_tup32 {h : Hh} {a b : Nm} {x y z : Int} : eqD h (.tup [.str b, .int y, .int z]) (.tup [.str a, .int x]) = some false := by
  simp [eqD, pyH, mapO, PyData.eqv, PyData.eqvAll, toS_beq, toS_inj']
theorem q_tup11 {h : Hh} {a b : Nm} : eqD h (.tup [.str a]) (.tup [.str b]) = some (decide (a = b)) := by
  simp [eqD, pyH, mapO, PyData.eqv, PyData.eqvAll, toS_beq, toS_inj']
theorem q_ready {h : Hh} (c : Cond) : eqD h c.d (.tup [.str [114, 101, 97, 100, 121]]) = some (decide (c = .ready)) := by
  cases c <;> simp [Cond.d, q_tup11, q_tup21, q_tup31]
theorem q_wait {h : Hh} (c : Cond) (t : Int) : eqD h c.d (.tup [.str [119, 97, 105, 116, 105, 110, 103], .int t]) = some (decide (c = .waiting t)) := by
  cases c <;> simp [Cond.d, q_tup12, q_tup2, q_tup32]
theorem q_sl {h : Hh} (c : Cond) (cpu : Nat) : eqD h c.d1 (.tup [.str [115, 108, 101, 101, 112, 105, 110, 103], .int cpu]) = some (c.sl cpu) := by
  cases c <;> simp [Cond.d1, Cond.d, Cond.sl, q_tup12, q_tup2, q_tup32, q_tup11]
  omega
theorem s_cond {h : Hh} {V : D → Hh → Prop} {X : XX} (c : Cond) : Wp (slice c.d none (some 2) h) V X ↔ V c.d1 h := by
  cases c <;> simp only [Cond.d, Cond.d1, s_tup, show (2 : Int) = ((2 : Nat) : Int) from rfl, cutL_to] <;> exact Iff.rfl
theorem x_cond {h : Hh} {V : D → Hh → Prop} {X : XX} (c : Cond) : Wp (getix c.d (.int 0) h) V X ↔ V (.str c.nm) h := by
  cases c <;> simp [Cond.d, Cond.nm]
theorem ready_d : D.tup [.str [114, 101, 97, 100, 121]] = Cond.ready.d := rfl
section
variable {w : Bool} {F : Nat → Option O} {ad : Ro → Nat} {s : Ms} {h : Hh} {V : D → Hh → Prop} {U : Unit → Hh → Prop} {X : XX} {cl : Fid → List D → Hh → Res D} {tb : Tb}
/-! both -/
theorem xThs (I : MI w F ad s h) {i : Nat} (hi : i < s.ths.length) : Wp (getix (.ref (ad .ths)) (.int i) h) V X ↔ V (.ref (ad (.th i))) h := by
  rw [x_lst (show h[ad .ths]? = some (.lst _) from I.at_ .ths trivial), at_nat]
  simp [refs, hi]
theorem xMems (I : MI w F ad s h) {i : Nat} (hi : i < s.mems.length) : Wp (getix (.ref (ad .mems)) (.int i) h) V X ↔ V (.ref (ad (.mem i))) h := by
  rw [x_lst (show h[ad .mems]? = some (.lst _) from I.at_ .mems trivial), at_nat]
  simp [refs, hi]
theorem xTimes (I : MI w F ad s h) {i : Nat} (hi : i < s.times.length) : Wp (getix (.ref (ad .times)) (.int i) h) V X ↔ V (.int (s.time i)) h := by
  rw [x_lst (show h[ad .times]? = some (.lst _) from I.at_ .times trivial), at_nat]
  simp [Ms.time, hi]
theorem xRuns (I : MI w F ad s h) {i : Nat} (hi : i < s.runs.length) : Wp (getix (.ref (ad .runs)) (.int i) h) V X ↔ V (.int (s.run i)) h := by
  rw [x_lst (show h[ad .runs]? = some (.lst _) from I.at_ .runs trivial), at_nat]
  simp [Ms.run, hi]
theorem xMem (I : MI w F ad s h) {i : Nat} {j : Int} (hi : i < s.mems.length) (h0 : 0 ≤ j) (hj : j < (s.mems.getD i []).length) : Wp (getix (.ref (ad (.mem i))) (.int j) h) V X ↔ V (.int ((s.mems.getD i []).getD j.toNat 0)) h := by
  rw [x_lst (show h[ad (.mem i)]? = some (.lst _) from I.at_ (.mem i) hi), at_pos h0]
  exact get_int h0 hj
theorem xRg (I : MI w F ad s h) {i : Nat} {j : Int} (hi : i < s.ths.length) (h0 : 0 ≤ j) (hj : j < (s.th i).regs.length) : Wp (getix (.ref (ad (.rg i))) (.int j) h) V X ↔ V (.int ((s.th i).regs.getD j.toNat 0)) h := by
  rw [x_lst (show h[ad (.rg i)]? = some (.lst _) from I.at_ (.rg i) hi), at_pos h0]
  exact get_int h0 hj
theorem lenThs (I : MI w F ad s h) : Wp (bltop .len [.ref (ad .ths)] h) V X ↔ V (.int s.ths.length) h := by
  rw [b_lenl (show h[ad .ths]? = some (.lst _) from I.at_ .ths trivial)]
  simp [refs]
theorem tupRg (I : MI w F ad s h) {i : Nat} (hi : i < s.ths.length) : seqOf h (.ref (ad (.rg i))) = some ((s.th i).regs.map .int) := sq_lst (I.at_ (.rg i) hi)
theorem tupMem (I : MI w F ad s h) {i : Nat} (hi : i < s.mems.length) : seqOf h (.ref (ad (.mem i))) = some ((s.mems.getD i []).map .int) := sq_lst (I.at_ (.mem i) hi)
theorem raReady (I : MI w F ad s h) : recv tb (.ref (ad .ready)) [97, 112, 112, 101, 110, 100] h = some (.bm .append) := r_app (show h[ad .ready]? = some (.lst _) from I.at_ .ready trivial)
theorem raReqs (I : MI w F ad s h) : recv tb (.ref (ad .reqs)) [97, 112, 112, 101, 110, 100] h = some (.bm .append) := r_app (show h[ad .reqs]? = some (.lst _) from I.at_ .reqs trivial)
theorem raViews (I : MI w F ad s h) : recv tb (.ref (ad .views)) [97, 112, 112, 101, 110, 100] h = some (.bm .append) := r_app (show h[ad .views]? = some (.lst _) from I.at_ .views trivial)
theorem raThs (I : MI w F ad s h) : recv tb (.ref (ad .ths)) [97, 112, 112, 101, 110, 100] h = some (.bm .append) := r_app (show h[ad .ths]? = some (.lst _) from I.at_ .ths trivial)
theorem aReady (I : MI w F ad s h) {n : Nat} {m : Nm} (hl : s.ready.length < 16777216) (q : ∀ h', MI w F ad { s with ready := s.ready ++ [n] } h' → V .non h') : Wp (methop cl (.bm .append) (.ref (ad .ready)) m [.int n] h) V X := by
  rw [m_append (show h[ad .ready]? = some (.lst _) from I.at_ .ready trivial) (by simpa using hl)]
  have := gready I (l := s.ready ++ [n])
  rw [List.map_append] at this
  exact q _ this
theorem aReqs (I : MI w F ad s h) {n : Rq} {m : Nm} (hl : s.reqs.length < 16777216) (q : ∀ h', MI w F ad { s with reqs := s.reqs ++ [n] } h' → V .non h') : Wp (methop cl (.bm .append) (.ref (ad .reqs)) m [n.d] h) V X := by
  rw [m_append (show h[ad .reqs]? = some (.lst _) from I.at_ .reqs trivial) (by simpa using hl)]
  have := greqs I (l := s.reqs ++ [n])
  rw [List.map_append] at this
  exact q _ this
theorem aViews (I : MI w F ad s h) (n : Vw) {m : Nm} (hl : s.views.length < 16777216) (q : ∀ h', MI w F ad { s with views := s.views ++ [n] } h' → V .non h') : Wp (methop cl (.bm .append) (.ref (ad .views)) m [n.d] h) V X := by
  rw [m_append (show h[ad .views]? = some (.lst _) from I.at_ .views trivial) (by simpa using hl)]
  have := gviews I (l := s.views ++ [n])
  rw [List.map_append] at this
  exact q _ this
theorem sRuns (I : MI w F ad s h) {i : Nat} {v : Int} (hi : i < s.runs.length) (q : ∀ h', MI w F ad { s with runs := s.runs.set i v } h' → U () h') : Wp (setix (.ref (ad .runs)) (.int i) (.int v) h) U X := by
  rw [sx_lst (show h[ad .runs]? = some (.lst _) from I.at_ .runs trivial) (ix_nat (by simpa using hi))]
  have := gruns I (l := s.runs.set i v)
  rw [List.map_set] at this
  exact q _ this
theorem sTimes (I : MI w F ad s h) {i : Nat} {v : Int} (hi : i < s.times.length) (q : ∀ h', MI w F ad { s with times := s.times.set i v } h' → U () h') : Wp (setix (.ref (ad .times)) (.int i) (.int v) h) U X := by
  rw [sx_lst (show h[ad .times]? = some (.lst _) from I.at_ .times trivial) (ix_nat (by simpa using hi))]
  have := gtimes I (l := s.times.set i v)
  rw [List.map_set] at this
  exact q _ this
theorem ix_pos {n : Nat} {i : Int} (h0 : 0 ≤ i) (h : i < n) : L2.ixN n i = some i.toNat := by
  unfold L2.ixN
  rw [if_pos h0, if_pos h]
theorem sRg (I : MI w F ad s h) {i : Nat} {j v : Int} (hi : i < s.ths.length) (h0 : 0 ≤ j) (hj : j < (s.th i).regs.length) (q : ∀ h', MI w F ad (s.up i { s.th i with regs := (s.th i).regs.set j.toNat v }) h' → U () h') : Wp (setix (.ref (ad (.rg i))) (.int j) (.int v) h) U X := by
  rw [sx_lst (show h[ad (.rg i)]? = some (.lst _) from I.at_ (.rg i) hi) (ix_pos h0 (by simpa using hj))]
  have := grg I hi (r := (s.th i).regs.set j.toNat v)
  rw [List.map_set] at this
  exact q _ this
theorem sMem (I : MI w F ad s h) {i : Nat} {j v : Int} (hi : i < s.mems.length) (h0 : 0 ≤ j) (hj : j < (s.mems.getD i []).length) (q : ∀ h', MI w F ad (s.mup i ((s.mems.getD i []).set j.toNat v)) h' → U () h') : Wp (setix (.ref (ad (.mem i))) (.int j) (.int v) h) U X := by
  rw [sx_lst (show h[ad (.mem i)]? = some (.lst _) from I.at_ (.mem i) hi) (ix_pos h0 (by simpa using hj))]
  have := gmem I hi (m := (s.mems.getD i []).set j.toNat v)
  rw [List.map_set] at this
  exact q _ this
end
section
variable {F : Nat → Option O} {ad : Ro → Nat} {s : Ms} {h : Hh} {V : D → Hh → Prop} {U : Unit → Hh → Prop} {X : XX} {cl : Fid → List D → Hh → Res D}
/-! the program's -/
theorem mP (I : MI true F ad s h) : h[ad .m]? = some (.ins [77, 97, 99, 104, 105, 110, 101] (mF ad s.rates s.value)) := I.at_ .m trivial
theorem rvM (I : MI true F ad s h) {m : Nm} {f : Fid} (hm : prg.tb.mt [77, 97, 99, 104, 105, 110, 101] m = some f) (hf : fget (mF ad s.rates s.value) m = none) : recv prg.tb (.ref (ad .m)) m h = some (.ins f) := r_ins (mP I) hm hf
theorem pMems (I : MI true F ad s h) : Wp (getfl (.ref (ad .m)) [109, 101, 109, 111, 114, 105, 101, 115] h) V X ↔ V (.ref (ad .mems)) h := by rw [f_get (mP I)]; simp [mF, fget]
theorem pRates (I : MI true F ad s h) : Wp (getfl (.ref (ad .m)) [114, 97, 116, 101, 115] h) V X ↔ V (tI s.rates) h := by rw [f_get (mP I)]; simp [mF, fget]
theorem pTimes (I : MI true F ad s h) : Wp (getfl (.ref (ad .m)) [116, 105, 109, 101, 115] h) V X ↔ V (.ref (ad .times)) h := by rw [f_get (mP I)]; simp [mF, fget]
theorem pRuns (I : MI true F ad s h) : Wp (getfl (.ref (ad .m)) [114, 117, 110, 110, 105, 110, 103] h) V X ↔ V (.ref (ad .runs)) h := by rw [f_get (mP I)]; simp [mF, fget]
theorem pThs (I : MI true F ad s h) : Wp (getfl (.ref (ad .m)) [116, 104, 114, 101, 97, 100, 115] h) V X ↔ V (.ref (ad .ths)) h := by rw [f_get (mP I)]; simp [mF, fget]
theorem pReady (I : MI true F ad s h) : Wp (getfl (.ref (ad .m)) [114, 101, 97, 100, 121] h) V X ↔ V (.ref (ad .ready)) h := by rw [f_get (mP I)]; simp [mF, fget]
theorem pValue (I : MI true F ad s h) : Wp (getfl (.ref (ad .m)) [118, 97, 108, 117, 101] h) V X ↔ V (.int s.value) h := by rw [f_get (mP I)]; simp [mF, fget]
theorem pReqs (I : MI true F ad s h) : Wp (getfl (.ref (ad .m)) [114, 101, 113, 117, 101, 115, 116, 115] h) V X ↔ V (.ref (ad .reqs)) h := by rw [f_get (mP I)]; simp [mF, fget]
theorem pViews (I : MI true F ad s h) : Wp (getfl (.ref (ad .m)) [118, 105, 101, 119, 115] h) V X ↔ V (.ref (ad .views)) h := by rw [f_get (mP I)]; simp [mF, fget]
theorem tP (I : MI true F ad s h) {i : Nat} (hi : i < s.ths.length) : h[ad (.th i)]? = some (thO true (ad (.rg i)) (s.th i)) := I.at_ (.th i) hi
theorem pPid (I : MI true F ad s h) {i : Nat} (hi : i < s.ths.length) : Wp (getfl (.ref (ad (.th i))) [112, 105, 100] h) V X ↔ V (.int (s.th i).pid) h := by rw [f_get (tP I hi)]; simp [fget]
theorem pPc (I : MI true F ad s h) {i : Nat} (hi : i < s.ths.length) : Wp (getfl (.ref (ad (.th i))) [112, 99] h) V X ↔ V (.int (s.th i).pc) h := by rw [f_get (tP I hi)]; simp [fget]
theorem pRegs (I : MI true F ad s h) {i : Nat} (hi : i < s.ths.length) : Wp (getfl (.ref (ad (.th i))) [114, 101, 103, 115] h) V X ↔ V (.ref (ad (.rg i))) h := by rw [f_get (tP I hi)]; simp [fget]
theorem pCond (I : MI true F ad s h) {i : Nat} (hi : i < s.ths.length) : Wp (getfl (.ref (ad (.th i))) [99, 111, 110, 100, 105, 116, 105, 111, 110] h) V X ↔ V (s.th i).cond.d h := by rw [f_get (tP I hi)]; simp [fget]
theorem pCall (I : MI true F ad s h) {i : Nat} (hi : i < s.ths.length) : Wp (getfl (.ref (ad (.th i))) [99, 97, 108, 108] h) V X ↔ V (.tup [.int (s.th i).c0, .int (s.th i).c1]) h := by rw [f_get (tP I hi)]; simp [fget]
theorem pSet (I : MI true F ad s h) {i : Nat} (hi : i < s.ths.length) {f : Nm} {v : D} {t : Th} (er : t.regs = (s.th i).regs) (ev : O.ins [84, 104, 114, 101, 97, 100] (fput [([112, 105, 100], .int (s.th i).pid), ([112, 99], .int (s.th i).pc), ([114, 101, 103, 115], .ref (ad (.rg i))), ([99, 111, 110, 100, 105, 116, 105, 111, 110], (s.th i).cond.d), ([99, 97, 108, 108], .tup [.int (s.th i).c0, .int (s.th i).c1])] f v) = thO true (ad (.rg i)) t)
    (hf : ((fget [([112, 105, 100], .int (s.th i).pid), ([112, 99], .int (s.th i).pc), ([114, 101, 103, 115], .ref (ad (.rg i))), ([99, 111, 110, 100, 105, 116, 105, 111, 110], (s.th i).cond.d), ([99, 97, 108, 108], .tup [.int (s.th i).c0, .int (s.th i).c1])] f).isSome || prg.tb.at_ [84, 104, 114, 101, 97, 100] f) = true)
    (q : ∀ h', MI true F ad (s.up i t) h' → U () h') : Wp (setfl prg.tb (.ref (ad (.th i))) f v h) U X := by
  rw [f_set (tP I hi) (by simp) hf, ev]
  exact q _ (gth I hi er)
theorem pSetPc (I : MI true F ad s h) {i : Nat} (hi : i < s.ths.length) {v : Int} (q : ∀ h', MI true F ad (s.up i { s.th i with pc := v }) h' → U () h') : Wp (setfl prg.tb (.ref (ad (.th i))) [112, 99] (.int v) h) U X :=
  pSet I hi (t := { s.th i with pc := v }) rfl rfl rfl q
theorem pSetCond (I : MI true F ad s h) {i : Nat} (hi : i < s.ths.length) (c : Cond) (q : ∀ h', MI true F ad (s.up i { s.th i with cond := c }) h' → U () h') : Wp (setfl prg.tb (.ref (ad (.th i))) [99, 111, 110, 100, 105, 116, 105, 111, 110] c.d h) U X :=
  pSet I hi (t := { s.th i with cond := c }) rfl rfl rfl q
theorem pSetCall (I : MI true F ad s h) {i : Nat} (hi : i < s.ths.length) {a b : Int} (q : ∀ h', MI true F ad (s.up i { s.th i with c0 := a, c1 := b }) h' → U () h') : Wp (setfl prg.tb (.ref (ad (.th i))) [99, 97, 108, 108] (.tup [.int a, .int b]) h) U X :=
  pSet I hi (t := { s.th i with c0 := a, c1 := b }) rfl rfl rfl q
theorem pSetValue (I : MI true F ad s h) {v : Int} (q : ∀ h', MI true F ad { s with value := v } h' → U () h') : Wp (setfl prg.tb (.ref (ad .m)) [118, 97, 108, 117, 101] (.int v) h) U X := by
  rw [f_set (mP I) (by simp [mF]) (by simp [mF, fget])]
  refine q _ (Re.set I .m trivial (fun j => Iff.rfl) (fun j aj ne => ?_) rfl)
  cases j <;> first | rfl | exact absurd rfl ne | exact absurd aj (by simp [act])
/-! the law's -/
theorem mL (I : MI false F ad s h) : h[ad .m]? = some (.dct (mD ad s.rates)) := I.at_ .m trivial
theorem lMems (I : MI false F ad s h) : Wp (getix (.ref (ad .m)) (.str [109, 101, 109]) h) V X ↔ V (.ref (ad .mems)) h := by rw [x_dct (mL I) rfl]; simp [mD, dget, keq]
theorem lRates (I : MI false F ad s h) : Wp (getix (.ref (ad .m)) (.str [114, 97, 116, 101, 115]) h) V X ↔ V (tI s.rates) h := by rw [x_dct (mL I) rfl]; simp [mD, dget, keq]
theorem lTimes (I : MI false F ad s h) : Wp (getix (.ref (ad .m)) (.str [116, 105, 109, 101]) h) V X ↔ V (.ref (ad .times)) h := by rw [x_dct (mL I) rfl]; simp [mD, dget, keq]
theorem lRuns (I : MI false F ad s h) : Wp (getix (.ref (ad .m)) (.str [114, 117, 110, 115]) h) V X ↔ V (.ref (ad .runs)) h := by rw [x_dct (mL I) rfl]; simp [mD, dget, keq]
theorem lThs (I : MI false F ad s h) : Wp (getix (.ref (ad .m)) (.str [116, 104, 114, 101, 97, 100, 115]) h) V X ↔ V (.ref (ad .ths)) h := by rw [x_dct (mL I) rfl]; simp [mD, dget, keq]
theorem lReady (I : MI false F ad s h) : Wp (getix (.ref (ad .m)) (.str [114, 101, 97, 100, 121]) h) V X ↔ V (.ref (ad .ready)) h := by rw [x_dct (mL I) rfl]; simp [mD, dget, keq]
theorem lDev (I : MI false F ad s h) : Wp (getix (.ref (ad .m)) (.str [100, 101, 118, 105, 99, 101]) h) V X ↔ V (.ref (ad .dev)) h := by rw [x_dct (mL I) rfl]; simp [mD, dget, keq]
theorem lViews (I : MI false F ad s h) : Wp (getix (.ref (ad .m)) (.str [101, 118, 101, 110, 116, 115]) h) V X ↔ V (.ref (ad .views)) h := by rw [x_dct (mL I) rfl]; simp [mD, dget, keq]
theorem dL (I : MI false F ad s h) : h[ad .dev]? = some (.lst [.int s.value, .ref (ad .reqs)]) := I.at_ .dev rfl
theorem lDev0 (I : MI false F ad s h) : Wp (getix (.ref (ad .dev)) (.int 0) h) V X ↔ V (.int s.value) h := by rw [x_lst (dL I)]; simp
theorem lDev1 (I : MI false F ad s h) : Wp (getix (.ref (ad .dev)) (.int 1) h) V X ↔ V (.ref (ad .reqs)) h := by rw [x_lst (dL I)]; simp
theorem tL (I : MI false F ad s h) {i : Nat} (hi : i < s.ths.length) : h[ad (.th i)]? = some (thO false (ad (.rg i)) (s.th i)) := I.at_ (.th i) hi
theorem lPid (I : MI false F ad s h) {i : Nat} (hi : i < s.ths.length) : Wp (getix (.ref (ad (.th i))) (.str [112, 105, 100]) h) V X ↔ V (.int (s.th i).pid) h := by rw [x_dct (tL I hi) rfl]; simp [dget, keq]
theorem lPc (I : MI false F ad s h) {i : Nat} (hi : i < s.ths.length) : Wp (getix (.ref (ad (.th i))) (.str [112, 99]) h) V X ↔ V (.int (s.th i).pc) h := by rw [x_dct (tL I hi) rfl]; simp [dget, keq]
theorem lRegs (I : MI false F ad s h) {i : Nat} (hi : i < s.ths.length) : Wp (getix (.ref (ad (.th i))) (.str [114, 101, 103, 115]) h) V X ↔ V (.ref (ad (.rg i))) h := by rw [x_dct (tL I hi) rfl]; simp [dget, keq]
theorem lCond (I : MI false F ad s h) {i : Nat} (hi : i < s.ths.length) : Wp (getix (.ref (ad (.th i))) (.str [105, 115]) h) V X ↔ V (s.th i).cond.d h := by rw [x_dct (tL I hi) rfl]; simp [dget, keq]
theorem lCall (I : MI false F ad s h) {i : Nat} (hi : i < s.ths.length) : Wp (getix (.ref (ad (.th i))) (.str [99, 97, 108, 108]) h) V X ↔ V (.tup [.int (s.th i).c0, .int (s.th i).c1]) h := by rw [x_dct (tL I hi) rfl]; simp [dget, keq]
theorem lSetPc (I : MI false F ad s h) {i : Nat} (hi : i < s.ths.length) {v : Int} (q : ∀ h', MI false F ad (s.up i { s.th i with pc := v }) h' → U () h') : Wp (setix (.ref (ad (.th i))) (.str [112, 99]) (.int v) h) U X := by
  rw [sx_dct (tL I hi) rfl (by simp)]
  exact q _ (gth I hi (t := { s.th i with pc := v }) rfl)
theorem lSetCond (I : MI false F ad s h) {i : Nat} (hi : i < s.ths.length) (c : Cond) (q : ∀ h', MI false F ad (s.up i { s.th i with cond := c }) h' → U () h') : Wp (setix (.ref (ad (.th i))) (.str [105, 115]) c.d h) U X := by
  rw [sx_dct (tL I hi) rfl (by simp)]
  exact q _ (gth I hi (t := { s.th i with cond := c }) rfl)
theorem lSetCall (I : MI false F ad s h) {i : Nat} (hi : i < s.ths.length) {a b : Int} (q : ∀ h', MI false F ad (s.up i { s.th i with c0 := a, c1 := b }) h' → U () h') : Wp (setix (.ref (ad (.th i))) (.str [99, 97, 108, 108]) (.tup [.int a, .int b]) h) U X := by
  rw [sx_dct (tL I hi) rfl (by simp)]
  exact q _ (gth I hi (t := { s.th i with c0 := a, c1 := b }) rfl)
theorem lSetValue (I : MI false F ad s h) {v : Int} (q : ∀ h', MI false F ad { s with value := v } h' → U () h') : Wp (setix (.ref (ad .dev)) (.int 0) (.int v) h) U X := by
  rw [sx_lst (dL I) (k := 0) rfl]
  refine q _ (Re.set I .dev rfl (fun j => Iff.rfl) (fun j aj ne => ?_) rfl)
  cases j <;> first | rfl | exact absurd rfl ne
end
end Zl

namespace Zl
open PySem Z
/-! MC: what the machine does, as plain functions; what stays right. -/
def Ms.view (s : Ms) (kind : Nm) (cpu tid : Nat) (at_ : Int) (args : List Int) : Vw := ⟨kind, cpu, s.time cpu, (s.th tid).pid, tid, at_, args, (s.th tid).regs, s.mems.getD (s.th tid).pid [], false⟩
def Ms.tell (s : Ms) (kind : Nm) (cpu tid : Nat) (at_ : Int) (args : List Int) : Ms := { s with views := s.views ++ [s.view kind cpu tid at_ args] }
def Ms.tick (s : Ms) (cpu : Nat) : Ms := { s with views := s.views ++ [⟨[116, 105, 99, 107], cpu, s.time cpu, -1, -1, -1, [], [0, 0, 0, 0], [], false⟩] }
def Ms.push (s : Ms) (t : Nat) : Ms := { s with ready := s.ready ++ [t] }
def Ms.off (s : Ms) (cpu : Nat) : Ms := { s with runs := s.runs.set cpu (-1) }
def Ms.leave0 (s : Ms) (cpu tid : Nat) (c : Cond) : Ms := if c = .ready then ((s.up tid { s.th tid with cond := c }).off cpu).push tid else (s.up tid { s.th tid with cond := c }).off cpu
def Ms.leave (s : Ms) (cpu tid : Nat) (c : Cond) (reason : Int) : Ms := (s.leave0 cpu tid c).tell [111, 102, 102] cpu tid ((s.leave0 cpu tid c).th tid).pc [reason]
def Ms.give0 (s : Ms) (tid : Nat) (r : Int) : Ms := s.up tid { s.th tid with regs := (s.th tid).regs.set 0 r }
def Ms.give1 (s : Ms) (cpu tid : Nat) (r : Int) : Ms := (s.give0 tid r).tell [114, 101, 116, 117, 114, 110] cpu tid ((s.give0 tid r).th tid).c1 [((s.give0 tid r).th tid).c0, r]
def Ms.give (s : Ms) (cpu tid : Nat) (r : Int) : Ms := if ((s.give1 cpu tid r).th tid).cond.nm = [114, 117, 110, 110, 105, 110, 103] then s.give1 cpu tid r else ((s.give1 cpu tid r).up tid { (s.give1 cpu tid r).th tid with cond := .ready }).push tid
def Ms.wake (s : Ms) (cpu : Nat) (tid code : Int) (n : Nat) : Ms := (List.range n).foldl (fun s o => if (s.th o).cond = .waiting tid then s.give cpu o code else s) s
def Ms.fin0 (s : Ms) (cpu tid : Nat) (at_ code : Int) : Ms := ((s.tell [101, 110, 100] cpu tid at_ [code]).up tid { (s.tell [101, 110, 100] cpu tid at_ [code]).th tid with cond := .ended code }).off cpu
def Ms.finish (s : Ms) (cpu tid : Nat) (at_ code : Int) : Ms := (s.fin0 cpu tid at_ code).wake cpu tid code (s.fin0 cpu tid at_ code).ths.length
def Ms.begin_ (s : Ms) (pid : Nat) (pc first : Int) : Ms := { s with ths := s.ths ++ [⟨pid, pc, [first, 0, 0, 0], .ready, 0, 0⟩], ready := s.ready ++ [s.ths.length] }
def Ms.reg (s : Ms) (tid : Nat) (j : Nat) : Int := (s.th tid).regs.getD j 0
def Ms.newth (s : Ms) (cpu tid : Nat) : Ms := if s.ths.length < 8 then (s.begin_ (s.th tid).pid ((s.reg tid 0).fmod 256) (s.reg tid 1)).give cpu tid s.ths.length else s.give cpu tid 65535
def Ms.wait (s : Ms) (cpu tid : Nat) (other : Int) : Ms :=
  if (s.ths.length : Int) ≤ other ∨ other = tid then s.give cpu tid 65535 else match (s.th other.toNat).cond with
    | .ended c => s.give cpu tid c
    | _ => s.leave cpu tid (.waiting other) 5
def Ms.ask (s : Ms) (tid : Nat) (call : Int) : Ms := { s with reqs := s.reqs ++ [⟨tid, call, s.reg tid 0⟩] }
def Ms.call (s : Ms) (cpu tid : Nat) (at_ number : Int) : Ms :=
  if number = 0 then s.finish cpu tid at_ (s.reg tid 0)
  else if number = 1 then (s.give cpu tid 0).leave cpu tid .ready 2
  else if number = 2 then s.leave cpu tid (.sleeping cpu (s.time cpu + s.reg tid 0)) 3
  else if number = 3 ∨ number = 4 then (s.ask tid number).leave cpu tid .asking 4
  else if number = 5 then s.newth cpu tid
  else if number = 6 then s.wait cpu tid (s.reg tid 0)
  else s.give cpu tid 65535
def Ms.byte (s : Ms) (pid : Nat) (at_ : Int) : Int := (s.mems.getD pid []).getD (at_.fmod 256).toNat 0
def Ms.rset (s : Ms) (tid : Nat) (j : Nat) (v : Int) : Ms := s.up tid { s.th tid with regs := (s.th tid).regs.set j v }
def Ms.pcset (s : Ms) (tid : Nat) (v : Int) : Ms := s.up tid { s.th tid with pc := v }
def Ms.work (s : Ms) (tid : Nat) (code pair : Int) : Ms :=
  let a := ((pair.fdiv 4).fmod 4).toNat
  let b := (pair.fmod 4).toNat
  if code = 2 then s.rset tid a ((s.reg tid a + s.reg tid b).fmod 65536)
  else if code = 3 then s.rset tid a ((s.reg tid a - s.reg tid b).fmod 65536)
  else if code = 4 then s.rset tid a (s.reg tid b)
  else if code = 5 then s.rset tid a (s.byte (s.th tid).pid (s.reg tid b))
  else s.mup (s.th tid).pid ((s.mems.getD (s.th tid).pid []).set ((s.reg tid b).fmod 256).toNat ((s.reg tid a).fmod 256))
def Ms.way (s : Ms) (tid : Nat) (code first second : Int) : Ms :=
  let c := (first.fmod 4).toNat
  if code = 1 then s.rset tid c second
  else if code = 7 then s.pcset tid first
  else if (code = 8 ∧ s.reg tid c = 0) ∨ (code = 9 ∧ s.reg tid c ≠ 0) then s.pcset tid second
  else if code = 11 then (s.rset tid 3 (s.th tid).pc).pcset tid first
  else if code = 12 then s.pcset tid ((s.reg tid 3).fmod 256)
  else s
def lens : List Int := [1, 3, 2, 2, 2, 2, 2, 2, 3, 3, 2, 2, 1]
def lenOf (c : Int) : Int := lens.getD c.toNat 0
def Ms.cset (s : Ms) (tid : Nat) (a b : Int) : Ms := s.up tid { s.th tid with c0 := a, c1 := b }
def Ms.instr0 (s : Ms) (cpu tid : Nat) (at_ code : Int) : Ms := (s.pcset tid ((at_ + lenOf code).fmod 256)).tell [105, 110, 115, 110] cpu tid at_ [code]
def Ms.entry (s : Ms) (cpu tid : Nat) (at_ first : Int) : Ms := (s.cset tid first at_).tell [101, 110, 116, 114, 121] cpu tid at_ [first, (s.cset tid first at_).reg tid 0, (s.cset tid first at_).reg tid 1]
def Ms.instr (s : Ms) (cpu tid : Nat) : Ms :=
  let at_ := (s.th tid).pc
  let code := s.byte (s.th tid).pid at_
  let first := s.byte (s.th tid).pid (at_ + 1)
  let second := s.byte (s.th tid).pid (at_ + 2)
  if 13 ≤ code then ((s.tell [105, 110, 115, 110] cpu tid at_ [code]).tell [102, 97, 117, 108, 116] cpu tid at_ [code]).finish cpu tid at_ 65535
  else if code = 0 then (s.instr0 cpu tid at_ code).finish cpu tid at_ 0
  else if code = 10 then ((s.instr0 cpu tid at_ code).entry cpu tid at_ first).call cpu tid at_ first
  else if code = 2 ∨ code = 3 ∨ code = 4 ∨ code = 5 ∨ code = 6 then (s.instr0 cpu tid at_ code).work tid code first
  else (s.instr0 cpu tid at_ code).way tid code first second
def Ms.turn0 (s : Ms) (cpu t : Nat) (r : List Nat) : Ms := (({ s with ready := r } : Ms) |> fun s => { s with runs := s.runs.set cpu t } : Ms) |> fun s => s.up t { s.th t with cond := .running cpu }
def Ms.turn (s : Ms) (cpu t : Nat) (r : List Nat) : Ms := (s.turn0 cpu t r).tell [111, 110] cpu t ((s.turn0 cpu t r).th t).pc []
def Ms.go (s : Ms) (cpu : Nat) : Ms :=
  if 0 ≤ s.run cpu then s.instr cpu (s.run cpu).toNat else match s.ready with
    | [] => s
    | t :: r => s.turn cpu t r
def Ms.ans0 (s : Ms) (q : Rq) (r : List Rq) : Ms := if q.call = 3 then { s with reqs := r, value := q.num } else { s with reqs := r }
def Ms.answer (s : Ms) (cpu : Nat) : Ms := match s.reqs with
  | [] => s
  | q :: r => ((s.ans0 q r).tell [100, 111, 110, 101] cpu q.tid ((s.ans0 q r).th q.tid).c1 [q.call]).give cpu q.tid (if q.call = 3 then 0 else s.value)
def Cond.due (c : Cond) (cpu : Nat) (t : Int) : Bool := match c with
  | .sleeping d u => decide (d = cpu) && decide (u ≤ t)
  | _ => false
def Ms.rouse (s : Ms) (cpu n : Nat) : Ms := (List.range n).foldl (fun s t => if (s.th t).cond.due cpu (s.time cpu) = true then s.give cpu t 0 else s) s
def Ms.start (s : Ms) (cpu : Nat) : Ms := { s with views := [], times := s.times.set cpu (s.time cpu + s.rate cpu) }
def Ms.timer (s : Ms) (cpu : Nat) : Ms := if 0 ≤ s.run cpu then (s.tick cpu).leave cpu (s.run cpu).toNat .ready 1 else s.tick cpu
def Ms.step (s : Ms) (cpu : Nat) (what : Nm) : Ms :=
  let s2 := (s.start cpu).rouse cpu s.ths.length
  if what = [115, 116, 101, 112] then s2.go cpu else if what = [116, 105, 109, 101, 114] then s2.timer cpu else s2.answer cpu
/-! ### what is right -/
structure TOk (M : Nat) (t : Th) : Prop where
  pid : t.pid < M
  pc0 : 0 ≤ t.pc
  pc1 : t.pc < 256
  rl : t.regs.length = 4
  rp : ∀ r ∈ t.regs, 0 ≤ r
  en : ∀ c, t.cond = .ended c → 0 ≤ c
structure Wf (cpus n : Nat) (s : Ms) : Prop where
  ml : s.mems.length ≤ 100
  mm : ∀ m ∈ s.mems, m.length = 256 ∧ ∀ b ∈ m, 0 ≤ b ∧ b < 256
  tk : ∀ t ∈ s.ths, TOk s.mems.length t
  tl : s.ths.length ≤ 8
  tm : s.times.length = cpus
  rt : s.rates.length = cpus
  rl : s.runs.length = cpus
  rn : ∀ r ∈ s.runs, r = -1 ∨ (0 ≤ r ∧ r < s.ths.length)
  rd : ∀ t ∈ s.ready, t < s.ths.length
  rq : ∀ q ∈ s.reqs, q.tid < s.ths.length ∧ 0 ≤ q.num
  vl : 0 ≤ s.value
  s1 : s.ready.length ≤ n
  s2 : s.reqs.length ≤ n
  s3 : s.views.length ≤ n
section
variable {cpus n m : Nat} {s : Ms} {cpu tid : Nat}
theorem Wf.mono (W : Wf cpus n s) (h : n ≤ m) : Wf cpus m s := { W with s1 := Nat.le_trans W.s1 h, s2 := Nat.le_trans W.s2 h, s3 := Nat.le_trans W.s3 h }
theorem th_get (hi : tid < s.ths.length) : s.th tid ∈ s.ths := by
  unfold Ms.th
  rw [List.getD_eq_getElem?_getD, List.getElem?_eq_getElem hi]
  exact List.getElem_mem hi
theorem Wf.t (W : Wf cpus n s) (hi : tid < s.ths.length) : TOk s.mems.length (s.th tid) := W.tk _ (th_get hi)
theorem Wf.up (W : Wf cpus n s) {t : Th} (ht : TOk s.mems.length t) : Wf cpus n (s.up tid t) :=
  { W with
    tk := fun u hu => by
      rcases List.mem_or_eq_of_mem_set hu with z | z
      · exact W.tk u z
      · rw [z]; exact ht
    tl := by show (s.ths.set tid t).length ≤ 8; rw [List.length_set]; exact W.tl
    rn := by show ∀ r ∈ s.runs, r = -1 ∨ (0 ≤ r ∧ r < ((s.ths.set tid t).length : Nat)); rw [List.length_set]; exact W.rn
    rd := by show ∀ u ∈ s.ready, u < (s.ths.set tid t).length; rw [List.length_set]; exact W.rd
    rq := by show ∀ q ∈ s.reqs, q.tid < (s.ths.set tid t).length ∧ 0 ≤ q.num; rw [List.length_set]; exact W.rq }
theorem up_len {t : Th} : (s.up tid t).ths.length = s.ths.length := List.length_set ..
theorem Wf.tell (W : Wf cpus n s) {kind : Nm} {at_ : Int} {args : List Int} : Wf cpus (n + 1) (s.tell kind cpu tid at_ args) :=
  { W.mono (Nat.le_succ n) with s3 := by have := W.s3; show (s.views ++ [_]).length ≤ n + 1; simp; omega }
theorem Wf.tick (W : Wf cpus n s) : Wf cpus (n + 1) (s.tick cpu) :=
  { W.mono (Nat.le_succ n) with s3 := by have := W.s3; show (s.views ++ [_]).length ≤ n + 1; simp; omega }
theorem Wf.push (W : Wf cpus n s) (ht : tid < s.ths.length) : Wf cpus (n + 1) (s.push tid) :=
  { W.mono (Nat.le_succ n) with
    s1 := by have := W.s1; show (s.ready ++ [_]).length ≤ n + 1; simp; omega
    rd := fun t h => by
      rcases List.mem_append.mp h with z | z
      · exact W.rd t z
      · rw [List.mem_singleton.mp z]; exact ht }
theorem Wf.off (W : Wf cpus n s) : Wf cpus n (s.off cpu) :=
  { W with
    rl := by show (s.runs.set cpu (-1)).length = cpus; rw [List.length_set]; exact W.rl
    rn := fun r h => by
      rcases List.mem_or_eq_of_mem_set h with z | z
      · exact W.rn r z
      · exact .inl z }
theorem TOk.cond {M : Nat} {t : Th} (k : TOk M t) {c : Cond} (hc : ∀ e, c = .ended e → 0 ≤ e) : TOk M { t with cond := c } := { k with en := hc }
theorem TOk.set {M : Nat} {t : Th} (k : TOk M t) {j : Nat} {v : Int} (hv : 0 ≤ v) : TOk M { t with regs := t.regs.set j v } :=
  { k with
    rl := by show (t.regs.set j v).length = 4; rw [List.length_set]; exact k.rl
    rp := fun r h => by
      rcases List.mem_or_eq_of_mem_set h with z | z
      · exact k.rp r z
      · rw [z]; exact hv }
theorem leave0_len {c : Cond} : (s.leave0 cpu tid c).ths.length = s.ths.length := by
  unfold Ms.leave0
  split <;> exact up_len
theorem Wf.leave0 (W : Wf cpus n s) (ht : tid < s.ths.length) {c : Cond} (hc : ∀ e, c = .ended e → 0 ≤ e) : Wf cpus (n + 1) (s.leave0 cpu tid c) := by
  have w := (W.up (tid := tid) ((W.t ht).cond hc)).off (cpu := cpu)
  unfold Ms.leave0
  split
  · exact w.push (by show tid < (s.up tid _).ths.length; rw [up_len]; exact ht)
  · exact w.mono (Nat.le_succ n)
theorem leave_len {c : Cond} {r : Int} : (s.leave cpu tid c r).ths.length = s.ths.length := leave0_len
theorem Wf.leave (W : Wf cpus n s) (ht : tid < s.ths.length) {c : Cond} (hc : ∀ e, c = .ended e → 0 ≤ e) {r : Int} : Wf cpus (n + 2) (s.leave cpu tid c r) := (W.leave0 ht hc).tell
theorem give0_len {r : Int} : (s.give0 tid r).ths.length = s.ths.length := up_len
theorem give1_len {r : Int} : (s.give1 cpu tid r).ths.length = s.ths.length := up_len
theorem give_len {r : Int} : (s.give cpu tid r).ths.length = s.ths.length := by
  unfold Ms.give
  split
  · exact give1_len
  · exact up_len.trans give1_len
theorem Wf.give0 (W : Wf cpus n s) (ht : tid < s.ths.length) {r : Int} (hr : 0 ≤ r) : Wf cpus n (s.give0 tid r) := W.up ((W.t ht).set hr)
theorem Wf.give1 (W : Wf cpus n s) (ht : tid < s.ths.length) {r : Int} (hr : 0 ≤ r) : Wf cpus (n + 1) (s.give1 cpu tid r) := (W.give0 ht hr).tell
theorem Wf.give (W : Wf cpus n s) (ht : tid < s.ths.length) {r : Int} (hr : 0 ≤ r) : Wf cpus (n + 2) (s.give cpu tid r) := by
  have w := W.give1 (cpu := cpu) ht hr
  have ht1 : tid < (s.give1 cpu tid r).ths.length := by rw [give1_len]; exact ht
  unfold Ms.give
  split
  · exact w.mono (by omega)
  · exact (w.up ((w.t ht1).cond fun e z => by cases z)).push (by rw [up_len]; exact ht1)
theorem wake_succ {t code : Int} {i : Nat} : s.wake cpu t code (i + 1) = if ((s.wake cpu t code i).th i).cond = .waiting t then (s.wake cpu t code i).give cpu i code else s.wake cpu t code i := by
  unfold Ms.wake
  rw [List.range_succ, List.foldl_append]
  rfl
theorem wake_len {t code : Int} : ∀ i, (s.wake cpu t code i).ths.length = s.ths.length
  | 0 => rfl
  | i + 1 => by
    rw [wake_succ]
    split
    · exact give_len.trans (wake_len i)
    · exact wake_len i
theorem Wf.wake (W : Wf cpus n s) {t code : Int} (hc : 0 ≤ code) : ∀ i, i ≤ s.ths.length → Wf cpus (n + 2 * i) (s.wake cpu t code i)
  | 0, _ => W
  | i + 1, h => by
    have w := W.wake (t := t) hc i (by omega)
    rw [wake_succ]
    split
    · exact (w.give (by rw [wake_len]; omega) hc)
    · exact w.mono (by omega)
theorem fin0_len {at_ code : Int} : (s.fin0 cpu tid at_ code).ths.length = s.ths.length := up_len
theorem Wf.fin0 (W : Wf cpus n s) (ht : tid < s.ths.length) {at_ code : Int} (hc : 0 ≤ code) : Wf cpus (n + 1) (s.fin0 cpu tid at_ code) := by
  have w := W.tell (cpu := cpu) (tid := tid) (kind := [101, 110, 100]) (at_ := at_) (args := [code])
  exact (w.up (TOk.cond (w.t ht) fun e z => by cases z; exact hc)).off
theorem finish_len {at_ code : Int} : (s.finish cpu tid at_ code).ths.length = s.ths.length := (wake_len _).trans fin0_len
theorem Wf.finish (W : Wf cpus n s) (ht : tid < s.ths.length) {at_ code : Int} (hc : 0 ≤ code) : Wf cpus (n + 17) (s.finish cpu tid at_ code) := by
  have := (W.fin0 (cpu := cpu) (at_ := at_) ht hc).wake (cpu := cpu) (t := tid) hc _ (Nat.le_refl _)
  have e := W.tl
  rw [fin0_len] at this
  unfold Ms.finish
  rw [fin0_len]
  exact this.mono (by omega)
theorem TOk.reg {M : Nat} {t : Th} (k : TOk M t) (j : Nat) : 0 ≤ t.regs.getD j 0 := by
  rw [List.getD_eq_getElem?_getD]
  cases e : t.regs[j]? with
  | none => exact Int.le_refl _
  | some v => exact k.rp v (List.mem_of_getElem? e)
theorem Wf.reg (W : Wf cpus n s) (ht : tid < s.ths.length) (j : Nat) : 0 ≤ s.reg tid j := (W.t ht).reg j
theorem Wf.begin_ (W : Wf cpus n s) (h8 : s.ths.length < 8) {pid : Nat} {pc first : Int} (hp : pid < s.mems.length) (p0 : 0 ≤ pc) (p1 : pc < 256) (hf : 0 ≤ first) : Wf cpus (n + 1) (s.begin_ pid pc first) :=
  { W.mono (Nat.le_succ n) with
    tk := fun t h => by
      rcases List.mem_append.mp h with z | z
      · exact W.tk t z
      · rw [List.mem_singleton.mp z]
        exact ⟨hp, p0, p1, rfl, fun r hr => by simp at hr; rcases hr with rfl | rfl <;> omega, fun c z => by cases z⟩
    tl := by show (s.ths ++ [_]).length ≤ 8; simp; omega
    rn := fun r h => by
      rcases W.rn r h with z | z
      · exact .inl z
      · right
        show 0 ≤ r ∧ r < (((s.ths ++ [_]).length : Nat) : Int)
        simp; omega
    rd := fun t h => by
      show t < (s.ths ++ [_]).length
      rcases List.mem_append.mp h with z | z
      · have := W.rd t z; simp; omega
      · rw [List.mem_singleton.mp z]; simp
    rq := fun q h => by
      have := W.rq q h
      refine ⟨?_, this.2⟩
      show q.tid < (s.ths ++ [_]).length
      simp; omega
    s1 := by have := W.s1; show (s.ready ++ [_]).length ≤ n + 1; simp; omega }
theorem begin_len {pid : Nat} {pc first : Int} : (s.begin_ pid pc first).ths.length = s.ths.length + 1 := by simp [Ms.begin_]
theorem Wf.newth (W : Wf cpus n s) (ht : tid < s.ths.length) : Wf cpus (n + 3) (s.newth cpu tid) := by
  have k := W.t ht
  unfold Ms.newth
  split
  · rename_i h8
    obtain ⟨f1, f2⟩ := fm (i := s.reg tid 0) (m := 256) (by decide)
    exact (W.begin_ h8 k.pid f1 f2 (k.reg 1)).give (by rw [begin_len]; omega) (by omega)
  · exact (W.give ht (by decide)).mono (by omega)
theorem Wf.wait (W : Wf cpus n s) (ht : tid < s.ths.length) {other : Int} (h0 : 0 ≤ other) : Wf cpus (n + 2) (s.wait cpu tid other) := by
  unfold Ms.wait
  split
  · exact W.give ht (by decide)
  · rename_i hn
    split
    · rename_i c hc
      exact W.give ht ((W.t (tid := other.toNat) (by omega)).en c hc)
    · exact W.leave ht fun e z => by cases z
theorem Wf.ask (W : Wf cpus n s) (ht : tid < s.ths.length) {call : Int} : Wf cpus (n + 1) (s.ask tid call) :=
  { W.mono (Nat.le_succ n) with
    s2 := by have := W.s2; show (s.reqs ++ [_]).length ≤ n + 1; simp; omega
    rq := fun q h => by
      rcases List.mem_append.mp h with z | z
      · exact W.rq q z
      · rw [List.mem_singleton.mp z]; exact ⟨ht, W.reg ht 0⟩ }
theorem Wf.call (W : Wf cpus n s) (ht : tid < s.ths.length) {at_ number : Int} : Wf cpus (n + 17) (s.call cpu tid at_ number) := by
  unfold Ms.call
  split
  · exact W.finish ht (W.reg ht 0)
  split
  · exact ((W.give (cpu := cpu) ht (r := 0) (by decide)).leave (by rw [give_len]; exact ht) fun e z => by cases z).mono (by omega)
  split
  · exact (W.leave ht fun e z => by cases z).mono (by omega)
  split
  · exact ((W.ask (call := number) ht).leave (cpu := cpu) ht fun e z => by cases z).mono (by omega)
  split
  · exact (W.newth ht).mono (by omega)
  split
  · exact (W.wait ht (W.reg ht 0)).mono (by omega)
  · exact (W.give ht (by decide)).mono (by omega)
theorem Wf.byte (W : Wf cpus n s) {pid : Nat} (hp : pid < s.mems.length) (at_ : Int) : 0 ≤ s.byte pid at_ ∧ s.byte pid at_ < 256 := by
  obtain ⟨f1, f2⟩ := fm (i := at_) (m := 256) (by decide)
  unfold Ms.byte
  have e : s.mems.getD pid [] ∈ s.mems := by
    rw [List.getD_eq_getElem?_getD, List.getElem?_eq_getElem hp]
    exact List.getElem_mem hp
  obtain ⟨h1, h2⟩ := W.mm _ e
  generalize s.mems.getD pid [] = l at h1 h2
  rw [List.getD_eq_getElem?_getD, List.getElem?_eq_getElem (l := l) (by omega)]
  exact h2 _ (List.getElem_mem _)
theorem Wf.mlen (W : Wf cpus n s) {pid : Nat} (hp : pid < s.mems.length) : (s.mems.getD pid []).length = 256 := by
  have e : s.mems.getD pid [] ∈ s.mems := by
    rw [List.getD_eq_getElem?_getD, List.getElem?_eq_getElem hp]
    exact List.getElem_mem hp
  exact (W.mm _ e).1
theorem Wf.rset (W : Wf cpus n s) (ht : tid < s.ths.length) {j : Nat} {v : Int} (hv : 0 ≤ v) : Wf cpus n (s.rset tid j v) := W.up ((W.t ht).set hv)
theorem Wf.pcset (W : Wf cpus n s) (ht : tid < s.ths.length) {v : Int} (h0 : 0 ≤ v) (h1 : v < 256) : Wf cpus n (s.pcset tid v) := W.up { W.t ht with pc0 := h0, pc1 := h1 }
theorem Wf.cset (W : Wf cpus n s) (ht : tid < s.ths.length) {a b : Int} : Wf cpus n (s.cset tid a b) := W.up { W.t ht with }
theorem Wf.mup (W : Wf cpus n s) {pid : Nat} {j : Nat} {v : Int} (hp : pid < s.mems.length) (h0 : 0 ≤ v) (h1 : v < 256) : Wf cpus n (s.mup pid ((s.mems.getD pid []).set j v)) := by
  have e : s.mems.getD pid [] ∈ s.mems := by
    rw [List.getD_eq_getElem?_getD, List.getElem?_eq_getElem hp]
    exact List.getElem_mem hp
  obtain ⟨g1, g2⟩ := W.mm _ e
  exact { W with
    ml := by show (s.mems.set pid _).length ≤ 100; rw [List.length_set]; exact W.ml
    mm := fun m hm => by
      rcases List.mem_or_eq_of_mem_set hm with z | z
      · exact W.mm m z
      · subst z
        refine ⟨by rw [List.length_set]; exact g1, fun b hb => ?_⟩
        rcases List.mem_or_eq_of_mem_set hb with y | y
        · exact g2 b y
        · rw [y]; exact ⟨h0, h1⟩
    tk := by show ∀ t ∈ s.ths, TOk (s.mems.set pid _).length t; rw [List.length_set]; exact W.tk }
theorem Wf.work (W : Wf cpus n s) (ht : tid < s.ths.length) {code pair : Int} : Wf cpus n (s.work tid code pair) := by
  have k := W.t ht
  unfold Ms.work
  dsimp only
  split
  · exact W.rset ht (fm (by decide)).1
  split
  · exact W.rset ht (fm (by decide)).1
  split
  · exact W.rset ht (k.reg _)
  split
  · exact W.rset ht (W.byte k.pid _).1
  · exact W.mup k.pid (fm (by decide)).1 (fm (by decide)).2
theorem Wf.way (W : Wf cpus n s) (ht : tid < s.ths.length) {code first second : Int} (f0 : 0 ≤ first) (f1 : first < 256) (s0 : 0 ≤ second) (s1 : second < 256) : Wf cpus n (s.way tid code first second) := by
  have k := W.t ht
  unfold Ms.way
  dsimp only
  split
  · exact W.rset ht s0
  split
  · exact W.pcset ht f0 f1
  split
  · exact W.pcset ht s0 s1
  split
  · exact (W.rset ht k.pc0).pcset (by show tid < (s.up tid _).ths.length; rw [up_len]; exact ht) f0 f1
  split
  · exact W.pcset ht (fm (by decide)).1 (fm (by decide)).2
  · exact W
theorem instr0_len {at_ code : Int} : (s.instr0 cpu tid at_ code).ths.length = s.ths.length := up_len
theorem instr0_mems {at_ code : Int} : (s.instr0 cpu tid at_ code).mems = s.mems := rfl
theorem Wf.instr0 (W : Wf cpus n s) (ht : tid < s.ths.length) {at_ code : Int} : Wf cpus (n + 1) (s.instr0 cpu tid at_ code) := (W.pcset ht (fm (by decide)).1 (fm (by decide)).2).tell
theorem entry_len {at_ first : Int} : (s.entry cpu tid at_ first).ths.length = s.ths.length := up_len
theorem Wf.entry (W : Wf cpus n s) (ht : tid < s.ths.length) {at_ first : Int} : Wf cpus (n + 1) (s.entry cpu tid at_ first) := (W.cset ht).tell
theorem Wf.instr (W : Wf cpus n s) (ht : tid < s.ths.length) : Wf cpus (n + 19) (s.instr cpu tid) := by
  have k := W.t ht
  have f := W.byte k.pid ((s.th tid).pc + 1)
  have g := W.byte k.pid ((s.th tid).pc + 2)
  unfold Ms.instr
  dsimp only
  split
  · exact (W.tell.tell.finish ht (by decide)).mono (by omega)
  split
  · exact ((W.instr0 ht).finish (by rw [instr0_len]; exact ht) (by decide)).mono (by omega)
  split
  · exact (((W.instr0 ht).entry (by rw [instr0_len]; exact ht)).call (by rw [entry_len, instr0_len]; exact ht)).mono (by omega)
  split
  · exact ((W.instr0 ht).work (by rw [instr0_len]; exact ht)).mono (by omega)
  · exact ((W.instr0 ht).way (by rw [instr0_len]; exact ht) f.1 f.2 g.1 g.2).mono (by omega)
theorem turn0_len {t : Nat} {r : List Nat} : (s.turn0 cpu t r).ths.length = s.ths.length := up_len
theorem Wf.turn0 (W : Wf cpus n s) {t : Nat} {r : List Nat} (e : s.ready = t :: r) : Wf cpus n (s.turn0 cpu t r) := by
  have ht : t < s.ths.length := W.rd t (by rw [e]; exact List.mem_cons_self)
  have w : Wf cpus n { s with ready := r, runs := s.runs.set cpu t } :=
    { W with
      rl := by show (s.runs.set cpu _).length = cpus; rw [List.length_set]; exact W.rl
      rn := fun x h => by
        rcases List.mem_or_eq_of_mem_set h with z | z
        · exact W.rn x z
        · right
          show 0 ≤ x ∧ x < (s.ths.length : Int)
          omega
      rd := fun x h => W.rd x (by rw [e]; exact List.mem_cons_of_mem _ h)
      s1 := by have := W.s1; rw [e] at this; simp at this; show r.length ≤ n; omega }
  exact w.up (TOk.cond (W.t ht) fun e z => by cases z)
theorem Wf.turn (W : Wf cpus n s) {t : Nat} {r : List Nat} (e : s.ready = t :: r) : Wf cpus (n + 1) (s.turn cpu t r) := (W.turn0 e).tell
theorem Wf.runt (W : Wf cpus n s) (hc : cpu < cpus) (h : 0 ≤ s.run cpu) : (s.run cpu).toNat < s.ths.length := by
  have hl := W.rl
  have e : s.run cpu ∈ s.runs := by
    unfold Ms.run
    rw [List.getD_eq_getElem?_getD, List.getElem?_eq_getElem (by omega)]
    exact List.getElem_mem _
  rcases W.rn _ e with z | z <;> omega
theorem Wf.go (W : Wf cpus n s) (hc : cpu < cpus) : Wf cpus (n + 19) (s.go cpu) := by
  unfold Ms.go
  split
  · rename_i h
    exact W.instr (W.runt hc h)
  · split
    · exact W.mono (by omega)
    · rename_i t r e
      exact (W.turn e).mono (by omega)
theorem ans0_len {q : Rq} {r : List Rq} : (s.ans0 q r).ths.length = s.ths.length := by
  unfold Ms.ans0; split <;> rfl
theorem Wf.ans0 (W : Wf cpus n s) {q : Rq} {r : List Rq} (e : s.reqs = q :: r) : Wf cpus n (s.ans0 q r) := by
  have hq := W.rq q (by rw [e]; exact List.mem_cons_self)
  have w : Wf cpus n { s with reqs := r } := { W with
    rq := fun x h => W.rq x (by rw [e]; exact List.mem_cons_of_mem _ h)
    s2 := by have := W.s2; rw [e] at this; simp at this; show r.length ≤ n; omega }
  unfold Ms.ans0
  split
  · exact { w with vl := hq.2 }
  · exact w
theorem Wf.answer (W : Wf cpus n s) : Wf cpus (n + 19) (s.answer cpu) := by
  unfold Ms.answer
  split
  · exact W.mono (by omega)
  · rename_i q r e
    have hq := W.rq q (by rw [e]; exact List.mem_cons_self)
    refine ((W.ans0 e).tell.give (by show q.tid < (s.ans0 q r).ths.length; rw [ans0_len]; exact hq.1) ?_).mono (by omega)
    split
    · decide
    · exact W.vl
theorem rouse_succ {i : Nat} : s.rouse cpu (i + 1) = if ((s.rouse cpu i).th i).cond.due cpu ((s.rouse cpu i).time cpu) = true then (s.rouse cpu i).give cpu i 0 else s.rouse cpu i := by
  unfold Ms.rouse
  rw [List.range_succ, List.foldl_append]
  rfl
theorem rouse_len : ∀ i, (s.rouse cpu i).ths.length = s.ths.length
  | 0 => rfl
  | i + 1 => by
    rw [rouse_succ]
    split
    · exact give_len.trans (rouse_len i)
    · exact rouse_len i
theorem Wf.rouse (W : Wf cpus n s) : ∀ i, i ≤ s.ths.length → Wf cpus (n + 2 * i) (s.rouse cpu i)
  | 0, _ => W
  | i + 1, h => by
    have w := W.rouse i (by omega)
    rw [rouse_succ]
    split
    · exact (w.give (by rw [rouse_len]; omega) (by decide))
    · exact w.mono (by omega)
theorem Wf.start (W : Wf cpus n s) : Wf cpus n (s.start cpu) :=
  { W with
    tm := by show (s.times.set cpu _).length = cpus; rw [List.length_set]; exact W.tm
    s3 := Nat.zero_le _ }
theorem Wf.timer (W : Wf cpus n s) (hc : cpu < cpus) : Wf cpus (n + 19) (s.timer cpu) := by
  unfold Ms.timer
  split
  · rename_i h
    exact (W.tick.leave (W.runt hc h) fun e z => by cases z).mono (by omega)
  · exact W.tick.mono (by omega)
theorem Wf.step (W : Wf cpus n s) (hc : cpu < cpus) {what : Nm} : Wf cpus (n + 35) (s.step cpu what) := by
  have w := (W.start (cpu := cpu)).rouse (cpu := cpu) s.ths.length (Nat.le_refl _)
  have e := W.tl
  have w := w.mono (m := n + 16) (by omega)
  unfold Ms.step
  dsimp only
  split
  · exact w.go hc
  split
  · exact w.timer hc
  · exact w.answer
end
end Zl

namespace Zl
open PySem Z
/-! MP: the program's machine does what the plain one does. -/
section
variable {F : Nat → Option O} {ad : Ro → Nat} {s : Ms} {h : Hh} {Q : D → Hh → Prop} {X : XX} {cpus n cpu tid : Nat}
theorem tI_nil : tI [] = .tup [] := rfl
theorem pmemory_ok (k : Nat) (I : MI true F ad s h) {pid : Nat} (hp : pid < s.mems.length) (q : Q (.ref (ad (.mem pid))) h) : Wp (C (k + 1) ([77, 97, 99, 104, 105, 110, 101], [109, 101, 109, 111, 114, 121]) [.ref (ad .m), .int pid] h) Q X := by
  refine wcall P3 rfl rfl ?_
  simp [F3]
  rw [w_cons']
  simp
  rw [pMems I, xMems I hp]
  exact q
theorem pbyte_ok (k : Nat) (I : MI true F ad s h) (W : Wf cpus n s) {pid : Nat} (hp : pid < s.mems.length) {a : Int} (q : Q (.int (s.byte pid a)) h) : Wp (C (k + 1) ([77, 97, 99, 104, 105, 110, 101], [98, 121, 116, 101]) [.ref (ad .m), .int pid, .int a] h) Q X := by
  refine wcall P4 rfl rfl ?_
  simp [F4]
  rw [w_cons']
  simp
  rw [pMems I, xMems I hp]
  obtain ⟨f1, f2⟩ := fm (i := a) (m := 256) (by decide)
  rw [xMem I hp f1 (by rw [W.mlen hp]; exact f2)]
  exact q
theorem pput_ok (k : Nat) (I : MI true F ad s h) (W : Wf cpus n s) {pid : Nat} (hp : pid < s.mems.length) {a v : Int} (q : ∀ h', MI true F ad (s.mup pid ((s.mems.getD pid []).set (a.fmod 256).toNat v)) h' → Q .non h') : Wp (C (k + 1) ([77, 97, 99, 104, 105, 110, 101], [112, 117, 116, 95, 98, 121, 116, 101]) [.ref (ad .m), .int pid, .int a, .int v] h) Q X := by
  refine wcall P5 rfl rfl ?_
  simp [F5]
  rw [w_cons']
  simp
  rw [pMems I, xMems I hp]
  obtain ⟨f1, f2⟩ := fm (i := a) (m := 256) (by decide)
  refine sMem I hp f1 (by rw [W.mlen hp]; exact f2) fun h1 I1 => ?_
  exact q h1 I1
theorem ptold_ok (k : Nat) {pid : Nat} {a : Int} (h0 : 0 ≤ a) {x : D} (q : Q (.bl true) h) : Wp (C (k + 1) ([77, 97, 99, 104, 105, 110, 101], [105, 115, 95, 116, 111, 108, 100]) [x, .int pid, .int a] h) Q X := by
  refine wcall P6 rfl rfl ?_
  simp [F6]
  rw [w_cons']
  simp [h0]
  exact q
theorem ptell_ok (k : Nat) (I : MI true F ad s h) (W : Wf cpus n s) (hn : n ≤ 10000000) (hc : cpu < cpus) (ht : tid < s.ths.length) {kind : Nm} {a : Int} {args : List Int} (q : ∀ h', MI true F ad (s.tell kind cpu tid a args) h' → Q .non h') :
    Wp (C (k + 2) ([77, 97, 99, 104, 105, 110, 101], [116, 101, 108, 108]) [.ref (ad .m), .str kind, .int cpu, .int tid, .int a, tI args] h) Q X := by
  have hp := (W.t ht).pid
  refine wcall P7 rfl rfl ?_
  simp [F7]
  rw [w_cons']
  simp
  rw [w_cons']
  simp
  rw [w_cons']
  simp
  rw [w_cons']
  simp
  rw [w_cons']
  simp
  rw [pThs I, xThs I ht, pPid I ht, w_cons']
  simp
  rw [pThs I, xThs I ht, pRegs I ht]
  refine ⟨_, tupRg I ht, ?_⟩
  rw [w_cons']
  simp
  rw [rvM I rfl rfl]
  refine ⟨_, rfl, ?_⟩
  simp
  refine pmemory_ok _ I hp ⟨_, tupMem I hp, ?_⟩
  rw [w_cons']
  simp
  rw [pViews I, raViews I]
  refine ⟨_, rfl, ?_⟩
  rw [pTimes I, xTimes I (by rw [W.tm]; exact hc)]
  refine aViews I (s.view kind cpu tid a args) (by have := W.s3; omega) fun h1 I1 => ?_
  exact q h1 I1
theorem ptick_ok (k : Nat) (I : MI true F ad s h) (W : Wf cpus n s) (hn : n ≤ 10000000) (hc : cpu < cpus) (q : ∀ h', MI true F ad (s.tick cpu) h' → Q .non h') :
    Wp (C (k + 2) ([77, 97, 99, 104, 105, 110, 101], [116, 101, 108, 108]) [.ref (ad .m), .str [116, 105, 99, 107], .int cpu, .int (-1), .int (-1), .tup []] h) Q X := by
  refine wcall P7 rfl rfl ?_
  simp [F7]
  rw [w_cons']
  simp
  rw [w_cons']
  simp
  rw [w_cons']
  simp
  rw [w_cons']
  simp
  rw [w_cons']
  simp
  rw [pViews I, raViews I]
  refine ⟨_, rfl, ?_⟩
  rw [pTimes I, xTimes I (by rw [W.tm]; exact hc)]
  refine aViews I ⟨[116, 105, 99, 107], cpu, s.time cpu, -1, -1, -1, [], [0, 0, 0, 0], [], false⟩ (by have := W.s3; omega) fun h1 I1 => ?_
  exact q h1 I1
theorem pleave_ok (k : Nat) (I : MI true F ad s h) (W : Wf cpus n s) (hn : n ≤ 1000000) (hc : cpu < cpus) (ht : tid < s.ths.length) {c : Cond} (hce : ∀ e, c = .ended e → 0 ≤ e) {r : Int} (q : ∀ h', MI true F ad (s.leave cpu tid c r) h' → Q .non h') :
    Wp (C (k + 3) ([77, 97, 99, 104, 105, 110, 101], [108, 101, 97, 118, 101]) [.ref (ad .m), .int cpu, .int tid, c.d, .int r] h) Q X := by
  refine wcall P9 rfl rfl ?_
  simp [F9]
  rw [w_cons']
  simp
  rw [pThs I, xThs I ht, w_cons']
  simp
  refine pSetCond I ht c fun h1 I1 => ?_
  rw [w_cons']
  simp
  rw [pRuns I1]
  refine sRuns I1 (by have := W.rl; show cpu < s.runs.length; omega) fun h2 I2 => ?_
  rw [w_cons']
  simp
  rw [q_ready]
  simp
  have ht2 : tid < (s.leave0 cpu tid c).ths.length := by rw [leave0_len]; exact ht
  have W3 := W.leave0 (cpu := cpu) ht hce
  have fin : ∀ h3, MI true F ad (s.leave0 cpu tid c) h3 → Wp (xss (C (k + 2)) prg.tb [.ex (.mth (.var 0) [116, 101, 108, 108] [.cst (.str [111, 102, 102]), .var 1, .var 2, .fld (.var 5) [112, 99], .tup [.var 4]])] [some (.ref (ad .m)), some (.int cpu), some (.int tid), some c.d, some (.int r), some (.ref (ad (.th tid)))] h3) (RetQ Q X) fun _ _ _ => False := by
    intro h3 I3
    rw [w_cons']
    simp
    rw [rvM I3 rfl rfl]
    refine ⟨_, rfl, ?_⟩
    simp
    rw [pPc I3 ht2]
    exact ptell_ok _ I3 W3 (by omega) hc ht2 (args := [r]) q
  by_cases e : c = .ready
  · rw [if_pos e, w_cons']
    simp
    rw [pReady I2, raReady I2]
    refine ⟨_, rfl, ?_⟩
    refine aReady I2 (by have := W.s1; show s.ready.length < _; omega) fun h3 I3 => ?_
    refine fin h3 ?_
    unfold Ms.leave0
    rw [if_pos e]
    exact I3
  · rw [if_neg e]
    refine fin h2 ?_
    unfold Ms.leave0
    rw [if_neg e]
    exact I2
theorem pgive_ok (k : Nat) (I : MI true F ad s h) (W : Wf cpus n s) (hn : n ≤ 1000000) (hc : cpu < cpus) (ht : tid < s.ths.length) {r : Int} (hr : 0 ≤ r) (q : ∀ h', MI true F ad (s.give cpu tid r) h' → Q .non h') :
    Wp (C (k + 3) ([77, 97, 99, 104, 105, 110, 101], [103, 105, 118, 101, 95, 98, 97, 99, 107]) [.ref (ad .m), .int cpu, .int tid, .int r] h) Q X := by
  refine wcall P10 rfl rfl ?_
  simp [F10]
  rw [w_cons']
  simp
  rw [pThs I, xThs I ht, w_cons']
  simp
  rw [pRegs I ht]
  refine sRg I ht (j := 0) (by decide) (by rw [(W.t ht).rl]; decide) fun h1 I1 => ?_
  have I1 : MI true F ad (s.give0 tid r) h1 := I1
  have ht1 : tid < (s.give0 tid r).ths.length := by rw [give0_len]; exact ht
  have W1 := W.give0 ht hr
  rw [w_cons']
  simp
  rw [rvM I1 rfl rfl]
  refine ⟨_, rfl, ?_⟩
  simp
  rw [pCall I1 ht1]
  simp
  rw [pCall I1 ht1]
  simp
  refine ptell_ok _ I1 W1 (by omega) hc ht1 (args := [((s.give0 tid r).th tid).c0, r]) fun h2 I2 => ?_
  have I2 : MI true F ad (s.give1 cpu tid r) h2 := I2
  have ht2 : tid < (s.give1 cpu tid r).ths.length := by rw [give1_len]; exact ht
  have W2 := W.give1 (cpu := cpu) ht hr
  rw [w_cons']
  simp
  rw [pCond I2 ht2, x_cond]
  simp
  by_cases e : ((s.give1 cpu tid r).th tid).cond.nm = [114, 117, 110, 110, 105, 110, 103]
  · rw [if_pos e]
    have := q h2
    unfold Ms.give at this
    rw [if_pos e] at this
    exact this I2
  · rw [if_neg e, w_cons']
    simp
    refine pSetCond I2 ht2 .ready fun h3 I3 => ?_
    rw [w_cons']
    simp
    rw [pReady I3, raReady I3]
    refine ⟨_, rfl, ?_⟩
    refine aReady I3 (by have := W2.s1; show (s.give1 cpu tid r).ready.length < _; omega) fun h4 I4 => ?_
    have := q h4
    unfold Ms.give at this
    rw [if_neg e] at this
    exact this I4

structure WkI (F : Nat → Option O) (ad : Ro → Nat) (s : Ms) (cpu tid : Nat) (a code : Int) (i : Nat) (sg : Sg) (h : Hh) : Prop where
  I : MI true F ad (s.wake cpu tid code i) h
  s : ∃ x, sg = [some (.ref (ad .m)), some (.int cpu), some (.int tid), some (.int a), some (.int code), x]
theorem pend_ok (k : Nat) (I : MI true F ad s h) (W : Wf cpus n s) (hn : n ≤ 100000) (hc : cpu < cpus) (ht : tid < s.ths.length) {a code : Int} (h0 : 0 ≤ code) (q : ∀ h', MI true F ad (s.finish cpu tid a code) h' → Q .non h') :
    Wp (C (k + 4) ([77, 97, 99, 104, 105, 110, 101], [101, 110, 100, 95, 116, 104, 114, 101, 97, 100]) [.ref (ad .m), .int cpu, .int tid, .int a, .int code] h) Q X := by
  refine wcall P11 rfl rfl ?_
  simp [F11]
  rw [w_cons']
  simp
  rw [rvM I rfl rfl]
  refine ⟨_, rfl, ?_⟩
  simp
  refine ptell_ok _ I W (by omega) hc ht (args := [code]) fun h1 I1 => ?_
  have ht1 : tid < (s.tell [101, 110, 100] cpu tid a [code]).ths.length := ht
  rw [w_cons']
  simp
  rw [pThs I1, xThs I1 ht1]
  refine pSetCond I1 ht1 (.ended code) fun h2 I2 => ?_
  rw [w_cons']
  simp
  rw [pRuns I2]
  refine sRuns I2 (by have := W.rl; show cpu < s.runs.length; omega) fun h3 I3 => ?_
  have I3 : MI true F ad (s.fin0 cpu tid a code) h3 := I3
  have W3 := W.fin0 (cpu := cpu) (at_ := a) ht h0
  have q : ∀ h', MI true F ad ((s.fin0 cpu tid a code).wake cpu tid code (s.fin0 cpu tid a code).ths.length) h' → Q .non h' := q
  generalize s.fin0 cpu tid a code = s3 at I3 W3 q
  have tl := W3.tl
  rw [w_cons']
  simp
  rw [pThs I3, lenThs I3]
  refine ⟨_, rfl, by unfold inRng; simp; omega, ?_⟩
  refine wk_rng (fun i => WkI F ad s3 cpu tid a code i.toNat) ⟨I3, _, rfl⟩ ?_ ?_ ?_
  · rintro sg h i ⟨_, x, rfl⟩
    simp
  · rintro i sg h4 i0 im ⟨I4, x, rfl⟩
    obtain ⟨i, rfl⟩ := Int.eq_ofNat_of_zero_le i0
    simp at im I4
    have hi : i < (s3.wake cpu tid code i).ths.length := by rw [wake_len]; exact im
    have W4 := W3.wake (cpu := cpu) (t := tid) h0 i (by omega)
    simp
    unfold B11_0
    rw [w_cons']
    simp
    rw [pThs I4, xThs I4 hi, pCond I4 hi, q_wait]
    simp
    have e := wake_succ (s := s3) (cpu := cpu) (t := tid) (code := code) (i := i)
    by_cases c : ((s3.wake cpu tid code i).th i).cond = .waiting tid
    · rw [if_pos c, w_cons']
      simp
      rw [rvM I4 rfl rfl]
      refine ⟨_, rfl, ?_⟩
      simp
      refine pgive_ok _ I4 W4 (by omega) hc hi h0 fun h5 I5 => ⟨?_, _, rfl⟩
      rw [if_pos c] at e
      show MI true F ad (s3.wake cpu tid code (i + 1)) h5
      rw [e]
      exact I5
    · rw [if_neg c]
      rw [if_neg c] at e
      refine ⟨?_, _, rfl⟩
      show MI true F ad (s3.wake cpu tid code (i + 1)) h4
      rw [e]
      exact I4
  · rintro sg h4 hI _
    obtain ⟨I4, x, rfl⟩ := hI (by omega)
    simp at I4
    simp
    exact q h4 I4
/-- a new thread: its registers at b, itself at a; then it joins the row -/
theorem gnew {w : Bool} (I : MI w F ad s h) {h' : Hh} {a b : Nat} {t : Th} (ex : ∀ m, m < h.length → h'[m]? = h[m]?) (ha : h'[a]? = some (thO w b t)) (hb : h'[b]? = some (.lst (t.regs.map .int))) (la : h.length ≤ a) (lb : h.length ≤ b) (ne : a ≠ b) :
    MI w F (upA (upA ad (.rg s.ths.length) b) (.th s.ths.length) a) { s with ths := s.ths ++ [t] } (h'.set (ad .ths) (.lst (refs ad .th s.ths.length ++ [.ref a]))) := by
  have R : MI w F ad s h' := { I with
    at_ := fun k ak => by rw [ex _ (I.lt ak)]; exact I.at_ k ak
    fo := fun m o e => by rw [ex m (lt_of (I.fo m o e))]; exact I.fo m o e }
  have th_old : ∀ j, j < s.ths.length → ({ s with ths := s.ths ++ [t] } : Ms).th j = s.th j := fun j hj => by
    simp [Ms.th, List.getD_eq_getElem?_getD, List.getElem?_append_left hj]
  have th_new : ({ s with ths := s.ths ++ [t] } : Ms).th s.ths.length = t := by
    simp [Ms.th, List.getD_eq_getElem?_getD]
  have nFa : F a = none := I.nfL la
  have nFb : F b = none := I.nfL lb
  have fa : ∀ j, act w s j → ad j ≠ a := fun j aj => by have := I.lt aj; omega
  have fb : ∀ j, act w s j → ad j ≠ b := fun j aj => by have := I.lt aj; omega
  -- the registers
  let ob1 : Ro → O := fun j => if j = .rg s.ths.length then .lst (t.regs.map .int) else ob w ad s j
  let act1 : Ro → Prop := fun j => act w s j ∨ j = .rg s.ths.length
  have R1 : Re F (upA ad (.rg s.ths.length) b) act1 ob1 h' := by
    refine Re.move R (.rg s.ths.length) (fun j aj ne => aj.resolve_right ne) ?_ fb nFb fun j aj ne => if_neg ne
    show h'[b]? = some (if _ then _ else _)
    rw [if_pos rfl]; exact hb
  let ob2 : Ro → O := fun j => if j = .th s.ths.length then thO w b t else ob1 j
  let act2 : Ro → Prop := fun j => act1 j ∨ j = .th s.ths.length
  have R2 : Re F (upA (upA ad (.rg s.ths.length) b) (.th s.ths.length) a) act2 ob2 h' := by
    refine Re.move R1 (.th s.ths.length) (fun j aj ne => aj.resolve_right ne) ?_ (fun j aj => ?_) nFa fun j aj ne => if_neg ne
    · show h'[a]? = some (if _ then _ else _)
      rw [if_pos rfl]; exact ha
    · rcases aj with z | z
      · have : j ≠ .rg s.ths.length := fun y => by subst y; exact Nat.lt_irrefl _ z
        rw [upA_ne this]; exact fa j z
      · rw [z, upA_eq]; exact ne.symm
  have ead : (upA (upA ad (.rg s.ths.length) b) (.th s.ths.length) a) .ths = ad .ths := rfl
  rw [← ead]
  have upo : ∀ j, j ≠ .rg s.ths.length → j ≠ .th s.ths.length → (upA (upA ad (.rg s.ths.length) b) (.th s.ths.length) a) j = ad j := fun j h1 h2 => by rw [upA_ne h2, upA_ne h1]
  refine Re.set R2 .ths (.inl (.inl trivial)) (fun j => ?_) (fun j aj ne2 => ?_) ?_
  · cases j with
    | th j =>
      show j < (s.ths ++ [t]).length ↔ ((j < s.ths.length ∨ Ro.th j = .rg _) ∨ Ro.th j = .th _)
      simp; omega
    | rg j =>
      show j < (s.ths ++ [t]).length ↔ ((j < s.ths.length ∨ Ro.rg j = .rg _) ∨ Ro.rg j = .th _)
      simp; omega
    | _ => simp [act, act2, act1]
  · cases j with
    | th j =>
      by_cases z : j = s.ths.length
      · subst z
        show thO w ((upA (upA ad _ b) _ a) (.rg _)) _ = (if _ then _ else _)
        rw [if_pos rfl, th_new, upA_ne (by simp), upA_eq]
      · have hj : j < s.ths.length := by
          rcases aj with (y | y) | y
          · exact y
          · cases y
          · cases y; exact absurd rfl z
        show thO w ((upA (upA ad _ b) _ a) (.rg j)) _ = (if _ then _ else if _ then _ else _)
        rw [if_neg (by simp [z]), if_neg (by simp), th_old j hj, upo _ (by simp [z]) (by simp)]
        rfl
    | rg j =>
      by_cases z : j = s.ths.length
      · subst z
        show O.lst (_) = (if _ then _ else if _ then _ else _)
        rw [if_neg (by simp), if_pos rfl, th_new]
      · have hj : j < s.ths.length := by
          rcases aj with (y | y) | y
          · exact y
          · cases y; exact absurd rfl z
          · cases y
        show O.lst (_) = (if _ then _ else if _ then _ else _)
        rw [if_neg (by simp), if_neg (by simp [z]), th_old j hj]
        rfl
    | ths => exact absurd rfl ne2
    | _ => cases w <;> rfl
  · show O.lst (refs _ .th (s.ths ++ [t]).length) = _
    congr 1
    unfold refs
    rw [List.length_append, List.length_singleton, List.range_succ, List.map_append]
    congr 1
    · refine List.map_congr_left fun i hi => ?_
      rw [List.mem_range] at hi
      rw [upo _ (by simp) (by simp; omega)]
    · simp [upA_eq]

theorem pinit_ok (k : Nat) {h : Hh} {a pid : Nat} {pc first : Int} (ha : h[a]? = some (.ins [84, 104, 114, 101, 97, 100] [])) (q : ∀ h', (∀ m, m < h.length → m ≠ a → h'[m]? = h[m]?) → h'[a]? = some (thO true h.length ⟨pid, pc, [first, 0, 0, 0], .ready, 0, 0⟩) → h'[h.length]? = some (.lst [.int first, .int 0, .int 0, .int 0]) → h.length < h'.length → Q .non h') :
    Wp (C (k + 1) ([84, 104, 114, 101, 97, 100], [95, 95, 105, 110, 105, 116, 95, 95]) [.ref a, .int pid, .int pc, .int first] h) Q X := by
  have la := lt_of ha
  refine wcall P0 rfl rfl ?_
  simp [F0]
  rw [w_cons']
  simp
  rw [f_set ha (by decide) rfl]
  have g1 := get_set (o := .ins [84, 104, 114, 101, 97, 100] (fput [] [112, 105, 100] (.int pid))) ha
  have l1 : (h.set a (.ins [84, 104, 114, 101, 97, 100] (fput [] [112, 105, 100] (.int pid)))).length = h.length := by simp
  have o1 : ∀ m, m ≠ a → (h.set a (.ins [84, 104, 114, 101, 97, 100] (fput [] [112, 105, 100] (.int pid))))[m]? = h[m]? := fun m e => get_ne (Ne.symm e)
  generalize h.set a (.ins [84, 104, 114, 101, 97, 100] (fput [] [112, 105, 100] (.int pid))) = h1 at g1 l1 o1 ⊢
  rw [w_cons']
  simp
  rw [f_set g1 (show (1 : Nat) < 1000 by decide) rfl]
  have g2 := get_set (o := .ins [84, 104, 114, 101, 97, 100] (fput (fput [] [112, 105, 100] (.int pid)) [112, 99] (.int pc))) g1
  have l2 : (h1.set a (.ins [84, 104, 114, 101, 97, 100] (fput (fput [] [112, 105, 100] (.int pid)) [112, 99] (.int pc)))).length = h.length := by simp [l1]
  have o2 : ∀ m, m ≠ a → (h1.set a (.ins [84, 104, 114, 101, 97, 100] (fput (fput [] [112, 105, 100] (.int pid)) [112, 99] (.int pc))))[m]? = h[m]? := fun m e => by rw [get_ne (Ne.symm e), o1 m e]
  generalize h1.set a (.ins [84, 104, 114, 101, 97, 100] (fput (fput [] [112, 105, 100] (.int pid)) [112, 99] (.int pc))) = h2 at g2 l2 o2 ⊢
  rw [w_cons']
  simp
  have g3 := get_app [O.lst [.int first, .int 0, .int 0, .int 0]] g2
  have r3 := get_new (h := h2) (o := O.lst [.int first, .int 0, .int 0, .int 0])
  have l3 : (h2 ++ [O.lst [.int first, .int 0, .int 0, .int 0]]).length = h.length + 1 := by simp [l2]
  have o3 : ∀ m, m < h.length → m ≠ a → (h2 ++ [O.lst [.int first, .int 0, .int 0, .int 0]])[m]? = h[m]? := fun m hm e => by rw [List.getElem?_append_left (by omega), o2 m e]
  rw [l2] at r3
  rw [l2]
  generalize h2 ++ [O.lst [.int first, .int 0, .int 0, .int 0]] = h3 at g3 r3 l3 o3 ⊢
  rw [f_set g3 (show (2 : Nat) < 1000 by decide) rfl]
  have na : a ≠ h.length := by omega
  have g4 := get_set (o := .ins [84, 104, 114, 101, 97, 100] (fput (fput (fput [] [112, 105, 100] (.int pid)) [112, 99] (.int pc)) [114, 101, 103, 115] (.ref h.length))) g3
  have r4 : (h3.set a (.ins [84, 104, 114, 101, 97, 100] (fput (fput (fput [] [112, 105, 100] (.int pid)) [112, 99] (.int pc)) [114, 101, 103, 115] (.ref h.length))))[h.length]? = _ := (get_ne na).trans r3
  have l4 : (h3.set a (.ins [84, 104, 114, 101, 97, 100] (fput (fput (fput [] [112, 105, 100] (.int pid)) [112, 99] (.int pc)) [114, 101, 103, 115] (.ref h.length)))).length = h.length + 1 := by simp [l3]
  have o4 : ∀ m, m < h.length → m ≠ a → (h3.set a (.ins [84, 104, 114, 101, 97, 100] (fput (fput (fput [] [112, 105, 100] (.int pid)) [112, 99] (.int pc)) [114, 101, 103, 115] (.ref h.length))))[m]? = h[m]? := fun m hm e => by rw [get_ne (Ne.symm e), o3 m hm e]
  generalize h3.set a (.ins [84, 104, 114, 101, 97, 100] (fput (fput (fput [] [112, 105, 100] (.int pid)) [112, 99] (.int pc)) [114, 101, 103, 115] (.ref h.length))) = h4 at g4 r4 l4 o4 ⊢
  rw [w_cons']
  simp
  rw [f_set g4 (show (3 : Nat) < 1000 by decide) rfl]
  have g5 := get_set (o := .ins [84, 104, 114, 101, 97, 100] (fput (fput (fput (fput [] [112, 105, 100] (.int pid)) [112, 99] (.int pc)) [114, 101, 103, 115] (.ref h.length)) [99, 111, 110, 100, 105, 116, 105, 111, 110] (.tup [.str [114, 101, 97, 100, 121]]))) g4
  have r5 : (h4.set a (.ins [84, 104, 114, 101, 97, 100] (fput (fput (fput (fput [] [112, 105, 100] (.int pid)) [112, 99] (.int pc)) [114, 101, 103, 115] (.ref h.length)) [99, 111, 110, 100, 105, 116, 105, 111, 110] (.tup [.str [114, 101, 97, 100, 121]]))))[h.length]? = _ := (get_ne na).trans r4
  have l5 : (h4.set a (.ins [84, 104, 114, 101, 97, 100] (fput (fput (fput (fput [] [112, 105, 100] (.int pid)) [112, 99] (.int pc)) [114, 101, 103, 115] (.ref h.length)) [99, 111, 110, 100, 105, 116, 105, 111, 110] (.tup [.str [114, 101, 97, 100, 121]])))).length = h.length + 1 := by simp [l4]
  have o5 : ∀ m, m < h.length → m ≠ a → (h4.set a (.ins [84, 104, 114, 101, 97, 100] (fput (fput (fput (fput [] [112, 105, 100] (.int pid)) [112, 99] (.int pc)) [114, 101, 103, 115] (.ref h.length)) [99, 111, 110, 100, 105, 116, 105, 111, 110] (.tup [.str [114, 101, 97, 100, 121]]))))[m]? = h[m]? := fun m hm e => by rw [get_ne (Ne.symm e), o4 m hm e]
  generalize h4.set a (.ins [84, 104, 114, 101, 97, 100] (fput (fput (fput (fput [] [112, 105, 100] (.int pid)) [112, 99] (.int pc)) [114, 101, 103, 115] (.ref h.length)) [99, 111, 110, 100, 105, 116, 105, 111, 110] (.tup [.str [114, 101, 97, 100, 121]]))) = h5 at g5 r5 l5 o5 ⊢
  rw [w_cons']
  simp
  rw [f_set g5 (show (4 : Nat) < 1000 by decide) rfl]
  refine q _ (fun m hm e => by rw [get_ne (Ne.symm e), o5 m hm e]) (get_set g5) ((get_ne na).trans r5) (by simp [l5])
theorem pbegin_ok (k : Nat) (I : MI true F ad s h) (W : Wf cpus n s) (hn : n ≤ 1000000) {pid : Nat} {pc first : Int} (q : ∀ h' ad', ad' .m = ad .m → MI true F ad' (s.begin_ pid pc first) h' → Q (.int s.ths.length) h') :
    Wp (C (k + 2) ([77, 97, 99, 104, 105, 110, 101], [98, 101, 103, 105, 110, 95, 116, 104, 114, 101, 97, 100]) [.ref (ad .m), .int pid, .int pc, .int first] h) Q X := by
  have tl := W.tl
  refine wcall P8 rfl rfl ?_
  simp [F8]
  rw [w_cons']
  simp
  rw [pThs I, raThs I]
  refine ⟨_, rfl, ?_⟩
  refine pinit_ok k get_new fun h1 o1 a1 b1 l1 => ⟨rfl, ?_⟩
  have lth := I.lt (k := .ths) trivial
  have lh : (h ++ [O.ins [84, 104, 114, 101, 97, 100] []]).length = h.length + 1 := by simp
  rw [lh] at o1 a1 b1 l1
  have ex : ∀ m, m < h.length → h1[m]? = h[m]? := fun m hm => by rw [o1 m (by omega) (by omega), List.getElem?_append_left hm]
  have e1 : h1[ad .ths]? = some (.lst (refs ad .th s.ths.length)) := (ex _ lth).trans (I.at_ .ths trivial)
  rw [m_append e1 (by simp [refs]; omega)]
  have I1 := gnew I ex a1 b1 (Nat.le_refl _) (by omega) (by omega)
  have ep : (upA (upA ad (.rg s.ths.length) (h.length + 1)) (.th s.ths.length) h.length) .m = ad .m := rfl
  generalize upA (upA ad (.rg s.ths.length) (h.length + 1)) (.th s.ths.length) h.length = ad1 at I1 ep
  generalize h1.set (ad .ths) (.lst (refs ad .th s.ths.length ++ [.ref h.length])) = h2 at I1 ⊢
  rw [w_cons']
  simp
  rw [← ep, pReady I1, raReady I1]
  refine ⟨_, rfl, ?_⟩
  rw [pThs I1, lenThs I1]
  simp
  refine aReady I1 (n := s.ths.length) (by have := W.s1; show s.ready.length < _; omega) fun h3 I3 => ?_
  rw [w_cons']
  simp
  rw [pThs I3, lenThs I3]
  simp
  exact q h3 ad1 ep I3
theorem pnewth_ok (k : Nat) (I : MI true F ad s h) (W : Wf cpus n s) (hn : n ≤ 100000) (hc : cpu < cpus) (ht : tid < s.ths.length) (q : ∀ h' ad', ad' .m = ad .m → MI true F ad' (s.newth cpu tid) h' → Q .non h') :
    Wp (C (k + 4) ([77, 97, 99, 104, 105, 110, 101], [110, 101, 119, 95, 116, 104, 114, 101, 97, 100]) [.ref (ad .m), .int cpu, .int tid] h) Q X := by
  have K := W.t ht
  have hr := K.rl
  refine wcall P19 rfl rfl ?_
  simp [F19]
  rw [w_cons']
  simp
  rw [pThs I, xThs I ht, w_cons']
  simp
  rw [w_cons']
  simp
  rw [pThs I, lenThs I]
  simp
  unfold Ms.newth at q
  by_cases c : s.ths.length < 8
  · rw [if_pos c] at q
    rw [if_pos (by omega), w_cons']
    simp
    rw [rvM I rfl rfl]
    refine ⟨_, rfl, ?_⟩
    simp
    rw [pPid I ht, pRegs I ht, xRg I ht (j := 0) (by decide) (by omega)]
    simp
    rw [pRegs I ht, xRg I ht (j := 1) (by decide) (by omega)]
    obtain ⟨f1, f2⟩ := fm (i := s.reg tid 0) (m := 256) (by decide)
    refine pbegin_ok _ I W (by omega) fun h1 ad1 e1 I1 => ?_
    have W1 := W.begin_ c (first := s.reg tid 1) K.pid f1 f2 (K.reg 1)
    rw [w_cons']
    simp
    rw [← e1, rvM I1 rfl rfl]
    refine ⟨_, rfl, ?_⟩
    simp
    exact pgive_ok _ I1 W1 (by omega) hc (by rw [begin_len]; omega) (by omega) fun h2 I2 => q h2 ad1 e1 I2
  · rw [if_neg c] at q
    rw [if_neg (by omega), w_cons']
    simp
    rw [rvM I rfl rfl]
    refine ⟨_, rfl, ?_⟩
    simp
    exact pgive_ok _ I W (by omega) hc ht (by decide) fun h2 I2 => q h2 ad rfl I2
theorem pwait_ok (k : Nat) (I : MI true F ad s h) (W : Wf cpus n s) (hn : n ≤ 100000) (hc : cpu < cpus) (ht : tid < s.ths.length) {other : Int} (h0 : 0 ≤ other) (q : ∀ h', MI true F ad (s.wait cpu tid other) h' → Q .non h') :
    Wp (C (k + 4) ([77, 97, 99, 104, 105, 110, 101], [119, 97, 105, 116, 95, 102, 111, 114]) [.ref (ad .m), .int cpu, .int tid, .int other] h) Q X := by
  refine wcall P20 rfl rfl ?_
  simp [F20]
  rw [w_cons']
  simp
  rw [pThs I, lenThs I]
  simp
  unfold Ms.wait at q
  by_cases c : (s.ths.length : Int) ≤ other ∨ other = tid
  · rw [if_pos c] at q
    have e : Wp (xss (C (k + 3)) prg.tb [.ex (.mth (.var 0) [103, 105, 118, 101, 95, 98, 97, 99, 107] [.var 1, .var 2, .cst (.int 65535)])] [some (.ref (ad .m)), some (.int cpu), some (.int tid), some (.int other)] h) (SeqQ (fun _ h => Q .non h) (RetQ Q X)) fun _ _ _ => False := by
      rw [w_cons']
      simp
      rw [rvM I rfl rfl]
      refine ⟨_, rfl, ?_⟩
      simp
      exact pgive_ok _ I W (by omega) hc ht (by decide) q
    by_cases c1 : (s.ths.length : Int) ≤ other
    · rw [if_pos c1, if_pos c1]
      exact e
    · rw [if_neg c1, if_pos (c.resolve_left c1)]
      exact e
  · have c1 : ¬ (s.ths.length : Int) ≤ other := fun z => c (.inl z)
    have c2 : ¬ other = tid := fun z => c (.inr z)
    rw [if_neg c] at q
    rw [if_neg c1, if_neg c2, w_cons']
    obtain ⟨o, rfl⟩ := Int.eq_ofNat_of_zero_le h0
    have ho : o < s.ths.length := by omega
    simp only [Int.toNat_natCast] at q
    simp
    rw [pThs I, xThs I ho, pCond I ho, x_cond]
    simp
    cases hcd : (s.th o).cond with
    | ended cc =>
      rw [hcd] at q
      simp [Cond.nm]
      rw [w_cons']
      simp
      rw [rvM I rfl rfl]
      refine ⟨_, rfl, ?_⟩
      rw [pThs I, xThs I ho, pCond I ho, hcd]
      simp [Cond.d]
      exact pgive_ok _ I W (by omega) hc ht ((W.t ho).en cc hcd) q
    | _ =>
      rw [hcd] at q
      simp [Cond.nm]
      rw [w_cons']
      simp
      rw [rvM I rfl rfl]
      refine ⟨_, rfl, ?_⟩
      exact pleave_ok _ I W (by omega) hc ht (c := .waiting o) (fun e z => by cases z) q
theorem in34 {h : Hh} {v : Int} : isIn h (.int v) (.tup [.int 3, .int 4]) = some (decide (v = 3 ∨ v = 4)) := by
  show some (decide ((3 : Int) = v) || (decide ((4 : Int) = v) || false)) = _
  by_cases a : v = 3
  · subst a; rfl
  · by_cases b : v = 4
    · subst b; rfl
    · simp [a, b, Ne.symm a, Ne.symm b]
theorem in26 {h : Hh} {v : Int} : isIn h (.int v) (.tup [.int 2, .int 3, .int 4, .int 5, .int 6]) = some (decide (v = 2 ∨ v = 3 ∨ v = 4 ∨ v = 5 ∨ v = 6)) := by
  show some (decide ((2 : Int) = v) || (decide ((3 : Int) = v) || (decide ((4 : Int) = v) || (decide ((5 : Int) = v) || (decide ((6 : Int) = v) || false))))) = _
  simp [eq_comm]
theorem pcall_ok (k : Nat) (I : MI true F ad s h) (W : Wf cpus n s) (hn : n ≤ 10000) (hc : cpu < cpus) (ht : tid < s.ths.length) {a number : Int} (q : ∀ h' ad', ad' .m = ad .m → MI true F ad' (s.call cpu tid a number) h' → Q .non h') :
    Wp (C (k + 5) ([77, 97, 99, 104, 105, 110, 101], [99, 97, 108, 108]) [.ref (ad .m), .int cpu, .int tid, .int a, .int number] h) Q X := by
  have K := W.t ht
  have hr := K.rl
  refine wcall P18 rfl rfl ?_
  simp [F18]
  rw [w_cons']
  simp
  rw [pThs I, xThs I ht, w_cons']
  simp
  unfold Ms.call at q
  have reg0 : ∀ {V : D → Hh → Prop} {X : XX}, Wp (getix (.ref (ad (.rg tid))) (.int 0) h) V X ↔ V (.int (s.reg tid 0)) h := by
    intro V X
    rw [xRg I ht (j := 0) (by decide) (by omega)]
    exact Iff.rfl
  by_cases c0 : number = 0
  · rw [if_pos c0] at q
    simp only [c0, if_true]
    rw [w_cons']
    simp
    rw [rvM I rfl rfl]
    refine ⟨_, rfl, ?_⟩
    rw [pRegs I ht, reg0]
    exact pend_ok _ I W (by omega) hc ht (W.reg ht 0) fun h' I' => q h' ad rfl I'
  rw [if_neg c0] at q
  simp only [c0, if_false]
  rw [w_cons']
  simp
  by_cases c1 : number = 1
  · rw [if_pos c1] at q
    simp only [c1, if_true]
    rw [w_cons']
    simp
    rw [rvM I rfl rfl]
    refine ⟨_, rfl, ?_⟩
    simp
    refine pgive_ok _ I W (by omega) hc ht (by decide) fun h1 I1 => ?_
    rw [w_cons']
    simp
    rw [rvM I1 rfl rfl]
    refine ⟨_, rfl, ?_⟩
    simp
    exact pleave_ok _ I1 (W.give ht (by decide)) (by omega) hc (by rw [give_len]; exact ht) (c := .ready) (fun e z => by cases z) fun h' I' => q h' ad rfl I'
  rw [if_neg c1] at q
  simp only [c1, if_false]
  rw [w_cons']
  simp
  by_cases c2 : number = 2
  · rw [if_pos c2] at q
    simp only [c2, if_true]
    rw [w_cons']
    simp
    rw [rvM I rfl rfl]
    refine ⟨_, rfl, ?_⟩
    rw [pTimes I, xTimes I (by rw [W.tm]; exact hc), pRegs I ht, reg0]
    simp
    exact pleave_ok _ I W (by omega) hc ht (c := .sleeping cpu (s.time cpu + s.reg tid 0)) (fun e z => by cases z) fun h' I' => q h' ad rfl I'
  rw [if_neg c2] at q
  simp only [c2, if_false]
  rw [w_cons']
  simp
  rw [in34]
  simp
  by_cases c3 : number = 3 ∨ number = 4
  · rw [if_pos c3] at q
    rw [if_pos c3, w_cons']
    simp
    rw [pReqs I, raReqs I]
    refine ⟨_, rfl, ?_⟩
    rw [pRegs I ht, reg0]
    refine aReqs I (n := ⟨tid, number, s.reg tid 0⟩) (by have := W.s2; omega) fun h1 I1 => ?_
    have I1 : MI true F ad (s.ask tid number) h1 := I1
    rw [w_cons']
    simp
    rw [rvM I1 rfl rfl]
    refine ⟨_, rfl, ?_⟩
    simp
    exact pleave_ok _ I1 (W.ask ht) (by omega) hc ht (c := .asking) (fun e z => by cases z) fun h' I' => q h' ad rfl I'
  rw [if_neg c3] at q
  rw [if_neg c3, w_cons']
  simp
  by_cases c5 : number = 5
  · rw [if_pos c5] at q
    simp only [c5, if_true]
    rw [w_cons']
    simp
    rw [rvM I rfl rfl]
    refine ⟨_, rfl, ?_⟩
    simp
    exact pnewth_ok _ I W (by omega) hc ht fun h' ad' e I' => q h' ad' e I'
  rw [if_neg c5] at q
  simp only [c5, if_false]
  rw [w_cons']
  simp
  by_cases c6 : number = 6
  · rw [if_pos c6] at q
    simp only [c6, if_true]
    rw [w_cons']
    simp
    rw [rvM I rfl rfl]
    refine ⟨_, rfl, ?_⟩
    rw [pRegs I ht, reg0]
    exact pwait_ok _ I W (by omega) hc ht (W.reg ht 0) fun h' I' => q h' ad rfl I'
  rw [if_neg c6] at q
  simp only [c6, if_false]
  rw [w_cons']
  simp
  rw [rvM I rfl rfl]
  refine ⟨_, rfl, ?_⟩
  simp
  exact pgive_ok _ I W (by omega) hc ht (by decide) fun h' I' => q h' ad rfl I'
theorem pwork_ok (k : Nat) (I : MI true F ad s h) (W : Wf cpus n s) (ht : tid < s.ths.length) {code pair : Int} (q : ∀ h', MI true F ad (s.work tid code pair) h' → Q .non h') :
    Wp (C (k + 2) ([77, 97, 99, 104, 105, 110, 101], [119, 111, 114, 107]) [.ref (ad .m), .ref (ad (.th tid)), .int code, .int pair] h) Q X := by
  have K := W.t ht
  have hr := K.rl
  refine wcall P16 rfl rfl ?_
  simp [F16]
  rw [w_cons']
  simp
  rw [w_cons']
  simp
  obtain ⟨a1, a2⟩ := fm (i := pair.fdiv 4) (m := 4) (by decide)
  obtain ⟨b1, b2⟩ := fm (i := pair) (m := 4) (by decide)
  unfold Ms.work at q
  dsimp only at q
  generalize (pair.fdiv 4).fmod 4 = a at a1 a2 q ⊢
  generalize pair.fmod 4 = b at b1 b2 q ⊢
  have rg : ∀ {V : D → Hh → Prop} {X : XX} {j : Int}, 0 ≤ j → j < 4 → (Wp (getix (.ref (ad (.rg tid))) (.int j) h) V X ↔ V (.int (s.reg tid j.toNat)) h) := by
    intro V X j j0 j4
    rw [xRg I ht j0 (by omega)]
    exact Iff.rfl
  have st : ∀ {v : Int} {U : Unit → Hh → Prop} {X : XX}, (∀ h', MI true F ad (s.rset tid a.toNat v) h' → U () h') → Wp (setix (.ref (ad (.rg tid))) (.int a) (.int v) h) U X := fun q => sRg I ht a1 (by omega) q
  rw [w_cons']
  simp
  by_cases c2 : code = 2
  · rw [if_pos c2] at q
    simp only [c2, if_true]
    rw [w_cons']
    simp
    rw [pRegs I ht, rg a1 a2, pRegs I ht, rg b1 b2]
    simp
    rw [pRegs I ht]
    exact st q
  rw [if_neg c2] at q
  simp only [c2, if_false]
  rw [w_cons']
  simp
  by_cases c3 : code = 3
  · rw [if_pos c3] at q
    simp only [c3, if_true]
    rw [w_cons']
    simp
    rw [pRegs I ht, rg a1 a2, pRegs I ht, rg b1 b2]
    simp
    rw [pRegs I ht]
    exact st q
  rw [if_neg c3] at q
  simp only [c3, if_false]
  rw [w_cons']
  simp
  by_cases c4 : code = 4
  · rw [if_pos c4] at q
    simp only [c4, if_true]
    rw [w_cons']
    simp
    rw [pRegs I ht, rg b1 b2, pRegs I ht]
    exact st q
  rw [if_neg c4] at q
  simp only [c4, if_false]
  rw [w_cons']
  simp
  by_cases c5 : code = 5
  · rw [if_pos c5] at q
    simp only [c5, if_true]
    rw [w_cons']
    simp
    rw [rvM I rfl rfl]
    refine ⟨_, rfl, ?_⟩
    rw [pPid I ht, pRegs I ht, rg b1 b2]
    simp
    refine pbyte_ok _ I W K.pid ?_
    rw [pRegs I ht]
    exact st q
  rw [if_neg c5] at q
  simp only [c5, if_false]
  rw [w_cons']
  simp
  rw [rvM I rfl rfl]
  refine ⟨_, rfl, ?_⟩
  rw [pPid I ht, pRegs I ht, rg b1 b2, pRegs I ht, rg a1 a2]
  simp
  exact pput_ok _ I W K.pid q
theorem pway_ok (k : Nat) (I : MI true F ad s h) (W : Wf cpus n s) (ht : tid < s.ths.length) {code first second : Int} (q : ∀ h', MI true F ad (s.way tid code first second) h' → Q .non h') :
    Wp (C (k + 1) ([77, 97, 99, 104, 105, 110, 101], [119, 97, 121]) [.ref (ad .m), .ref (ad (.th tid)), .int code, .int first, .int second] h) Q X := by
  have K := W.t ht
  have hr := K.rl
  refine wcall P17 rfl rfl ?_
  simp [F17]
  rw [w_cons']
  simp
  obtain ⟨a1, a2⟩ := fm (i := first) (m := 4) (by decide)
  unfold Ms.way at q
  dsimp only at q
  generalize first.fmod 4 = a at a1 a2 q ⊢
  have rg : ∀ {V : D → Hh → Prop} {X : XX} {j : Int}, 0 ≤ j → j < 4 → (Wp (getix (.ref (ad (.rg tid))) (.int j) h) V X ↔ V (.int (s.reg tid j.toNat)) h) := by
    intro V X j j0 j4
    rw [xRg I ht j0 (by omega)]
    exact Iff.rfl
  rw [w_cons']
  simp
  by_cases c1 : code = 1
  · rw [if_pos c1] at q
    simp only [c1, if_true]
    rw [w_cons']
    simp
    rw [pRegs I ht]
    exact sRg I ht a1 (by omega) q
  rw [if_neg c1] at q
  simp only [c1, if_false]
  rw [w_cons']
  simp
  by_cases c7 : code = 7
  · rw [if_pos c7] at q
    simp only [c7, if_true]
    rw [w_cons']
    simp
    exact pSetPc I ht q
  rw [if_neg c7] at q
  simp only [c7, if_false]
  rw [w_cons']
  simp
  have rgI : ∀ {V : D → Hh → Prop} {X : XX}, Wp (getix (.ref (ad (.rg tid))) (.int a) h) V X ↔ V (.int (s.reg tid a.toNat)) h := rg a1 a2
  have jump : ∀ (PQ : Fl × Sg → Hh → Prop), (∀ sg h', Q .non h' → PQ (.nx, sg) h') → ((code = 8 ∧ s.reg tid a.toNat = 0) ∨ (code = 9 ∧ s.reg tid a.toNat ≠ 0)) →
      Wp (xss (C k) prg.tb [.asg (.fld (.var 1) [112, 99]) (.var 4)] [some (.ref (ad .m)), some (.ref (ad (.th tid))), some (.int code), some (.int first), some (.int second), some (.int a)] h) PQ fun _ _ _ => False := by
    intro PQ pq c
    rw [if_pos c] at q
    rw [w_cons']
    simp
    exact pSetPc I ht fun h' I' => pq _ _ (q h' I')
  have rest : ∀ (PQ : Fl × Sg → Hh → Prop), (∀ sg h', Q .non h' → PQ (.nx, sg) h') → ¬ ((code = 8 ∧ s.reg tid a.toNat = 0) ∨ (code = 9 ∧ s.reg tid a.toNat ≠ 0)) →
      Wp (xss (C k) prg.tb [.ite (.cmp .Eq (.var 2) (.cst (.int 11))) [.asg (.ix (.fld (.var 1) [114, 101, 103, 115]) (.cst (.int 3))) (.fld (.var 1) [112, 99]), .asg (.fld (.var 1) [112, 99]) (.var 3)] [.ite (.cmp .Eq (.var 2) (.cst (.int 12))) [.asg (.fld (.var 1) [112, 99]) (.bin .Mod (.blt .int [.idx (.fld (.var 1) [114, 101, 103, 115]) (.cst (.int 3))]) (.cst (.int 256)))] []]]
        [some (.ref (ad .m)), some (.ref (ad (.th tid))), some (.int code), some (.int first), some (.int second), some (.int a)] h) PQ fun _ _ _ => False := by
    intro PQ pq c
    rw [if_neg c] at q
    rw [w_cons']
    simp
    by_cases c11 : code = 11
    · rw [if_pos c11] at q
      simp only [c11, if_true]
      rw [w_cons']
      simp
      rw [pPc I ht, pRegs I ht]
      refine sRg I ht (j := 3) (by decide) (by omega) fun h1 I1 => ?_
      have ht1 : tid < (s.rset tid 3 (s.th tid).pc).ths.length := by show tid < (s.up tid _).ths.length; rw [up_len]; exact ht
      rw [w_cons']
      simp
      exact pSetPc (s := s.rset tid 3 (s.th tid).pc) I1 ht1 fun h' I' => pq _ _ (q h' I')
    rw [if_neg c11] at q
    simp only [c11, if_false]
    rw [w_cons']
    simp
    by_cases c12 : code = 12
    · rw [if_pos c12] at q
      simp only [c12, if_true]
      rw [w_cons']
      simp
      rw [pRegs I ht, xRg I ht (j := 3) (by decide) (by omega)]
      simp
      exact pSetPc I ht fun h' I' => pq _ _ (q h' I')
    rw [if_neg c12] at q
    simp only [c12, if_false]
    exact pq _ _ (q h I)
  by_cases c8 : code = 8
  · rw [if_pos c8, pRegs I ht, rgI]
    have c9 : ¬ code = 9 := by omega
    by_cases z : s.reg tid a.toNat = 0
    · simp [z]
      refine jump _ ?_ (.inl ⟨c8, z⟩)
      exact fun _ _ z => z
    · simp [z, c9]
      refine rest _ ?_ (fun y => y.elim (fun y => z y.2) fun y => c9 y.1)
      exact fun _ _ z => z
  · rw [if_neg c8]
    by_cases c9 : code = 9
    · rw [if_pos c9, pRegs I ht, rgI]
      by_cases z : s.reg tid a.toNat = 0
      · simp [z, c8]
        refine rest _ ?_ (fun y => y.elim (fun y => c8 y.1) fun y => y.2 z)
        exact fun _ _ z => z
      · simp [z, c8]
        refine jump _ ?_ (.inr ⟨c9, z⟩)
        exact fun _ _ z => z
    · rw [if_neg c9]
      simp only [c8, c9, if_false]
      refine rest _ ?_ (fun y => y.elim (fun y => c8 y.1) fun y => c9 y.1)
      exact fun _ _ z => z
theorem lens_at {c : Int} (h0 : 0 ≤ c) (h1 : c < 13) : L2.atI (lens.map D.int) c = some (.int (lenOf c)) := by
  unfold lenOf
  rw [at_pos h0, List.getElem?_map, List.getD_eq_getElem?_getD, List.getElem?_eq_getElem (show c.toNat < lens.length by show c.toNat < 13; omega)]
  rfl
theorem pinstr_ok (k : Nat) (I : MI true F ad s h) (W : Wf cpus n s) (hn : n ≤ 9000) (hc : cpu < cpus) (ht : tid < s.ths.length) (q : ∀ h' ad', ad' .m = ad .m → MI true F ad' (s.instr cpu tid) h' → Q .non h') :
    Wp (C (k + 6) ([77, 97, 99, 104, 105, 110, 101], [105, 110, 115, 116, 114, 117, 99, 116, 105, 111, 110]) [.ref (ad .m), .int cpu, .int tid] h) Q X := by
  have K := W.t ht
  refine wcall P15 rfl rfl ?_
  simp [F15]
  rw [w_cons']
  simp
  rw [pThs I, xThs I ht, w_cons']
  simp
  rw [pPc I ht, w_cons']
  simp
  rw [rvM I rfl rfl]
  refine ⟨_, rfl, ?_⟩
  rw [pPid I ht]
  refine pbyte_ok _ I W K.pid ?_
  rw [w_cons']
  simp
  rw [rvM I rfl rfl]
  refine ⟨_, rfl, ?_⟩
  rw [pPid I ht]
  refine ptold_ok _ K.pc0 ?_
  unfold Ms.instr at q
  dsimp only at q
  have hb := W.byte K.pid (s.th tid).pc
  generalize (s.th tid).pc = at_ at q hb ⊢
  have ef : s.byte (s.th tid).pid (at_ + 1) = s.byte (s.th tid).pid (at_ + 1) := rfl
  generalize s.byte (s.th tid).pid at_ = code at q hb ⊢
  rw [w_cons']
  simp
  by_cases c13 : 13 ≤ code
  · rw [if_pos c13] at q
    rw [if_pos c13, w_cons']
    simp
    rw [w_cons']
    simp
    rw [rvM I rfl rfl]
    refine ⟨_, rfl, ?_⟩
    simp
    refine ptell_ok _ I W (by omega) hc ht (args := [code]) fun h1 I1 => ?_
    rw [w_cons']
    simp
    rw [rvM I1 rfl rfl]
    refine ⟨_, rfl, ?_⟩
    simp
    refine ptell_ok _ I1 W.tell (by omega) hc ht (args := [code]) fun h2 I2 => ?_
    rw [w_cons']
    simp
    rw [rvM I2 rfl rfl]
    refine ⟨_, rfl, ?_⟩
    simp
    refine pend_ok _ I2 W.tell.tell (by omega) hc ht (by decide) fun h3 I3 => ?_
    rw [w_cons']
    simp
    exact q h3 ad rfl I3
  rw [if_neg c13] at q
  rw [if_neg c13, w_cons']
  simp
  rw [rvM I rfl rfl]
  refine ⟨_, rfl, ?_⟩
  rw [pPid I ht]
  simp
  refine pbyte_ok _ I W K.pid ?_
  rw [w_cons']
  simp
  rw [rvM I rfl rfl]
  refine ⟨_, rfl, ?_⟩
  rw [pPid I ht]
  simp
  refine pbyte_ok _ I W K.pid ?_
  generalize s.byte (s.th tid).pid (at_ + 1) = first at q ⊢
  generalize s.byte (s.th tid).pid (at_ + 2) = second at q ⊢
  rw [w_cons']
  simp
  refine ⟨_, lens_at hb.1 (by omega), ?_⟩
  simp
  refine pSetPc I ht fun h1 I1 => ?_
  have I1 : MI true F ad (s.pcset tid ((at_ + lenOf code).fmod 256)) h1 := I1
  have W1 := W.pcset ht (fm (i := at_ + lenOf code) (m := 256) (by decide)).1 (fm (by decide)).2
  have ht1 : tid < (s.pcset tid ((at_ + lenOf code).fmod 256)).ths.length := by show tid < (s.up tid _).ths.length; rw [up_len]; exact ht
  rw [w_cons']
  simp
  rw [w_cons']
  simp
  rw [rvM I1 rfl rfl]
  refine ⟨_, rfl, ?_⟩
  simp
  refine ptell_ok _ I1 W1 (by omega) hc ht1 (args := [code]) fun h2 I2 => ?_
  have I2 : MI true F ad (s.instr0 cpu tid at_ code) h2 := I2
  have W2 := W.instr0 (cpu := cpu) (at_ := at_) (code := code) ht
  have ht2 : tid < (s.instr0 cpu tid at_ code).ths.length := by rw [instr0_len]; exact ht
  generalize s.instr0 cpu tid at_ code = s2 at q I2 W2 ht2
  rw [w_cons']
  simp
  by_cases c0 : code = 0
  · rw [if_pos c0] at q
    simp only [c0, if_true]
    rw [w_cons']
    simp
    rw [rvM I2 rfl rfl]
    refine ⟨_, rfl, ?_⟩
    simp
    exact pend_ok _ I2 W2 (by omega) hc ht2 (by decide) fun h3 I3 => q h3 ad rfl I3
  rw [if_neg c0] at q
  simp only [c0, if_false]
  rw [w_cons']
  simp
  by_cases c10 : code = 10
  · rw [if_pos c10] at q
    simp only [c10, if_true]
    rw [w_cons']
    simp
    refine pSetCall I2 ht2 fun h3 I3 => ?_
    have I3 : MI true F ad (s2.cset tid first at_) h3 := I3
    have W3 := W2.cset (a := first) (b := at_) ht2
    have ht3 : tid < (s2.cset tid first at_).ths.length := by show tid < (s2.up tid _).ths.length; rw [up_len]; exact ht2
    have rl3 := (W3.t ht3).rl
    rw [w_cons']
    simp
    rw [rvM I3 rfl rfl]
    refine ⟨_, rfl, ?_⟩
    rw [pRegs I3 ht3, xRg I3 ht3 (j := 0) (by decide) (by omega), pRegs I3 ht3, xRg I3 ht3 (j := 1) (by decide) (by omega)]
    simp
    refine ptell_ok _ I3 W3 (by omega) hc ht3 (args := [first, (s2.cset tid first at_).reg tid 0, (s2.cset tid first at_).reg tid 1]) fun h4 I4 => ?_
    have I4 : MI true F ad (s2.entry cpu tid at_ first) h4 := I4
    rw [w_cons']
    simp
    rw [rvM I4 rfl rfl]
    refine ⟨_, rfl, ?_⟩
    simp
    exact pcall_ok _ I4 (W2.entry ht2) (by omega) hc (by rw [entry_len]; exact ht2) q
  rw [if_neg c10] at q
  simp only [c10, if_false]
  rw [w_cons']
  simp
  rw [in26]
  simp
  by_cases c2 : code = 2 ∨ code = 3 ∨ code = 4 ∨ code = 5 ∨ code = 6
  · rw [if_pos c2] at q
    rw [if_pos c2, w_cons']
    simp
    rw [rvM I2 rfl rfl]
    refine ⟨_, rfl, ?_⟩
    simp
    exact pwork_ok _ I2 W2 ht2 fun h3 I3 => q h3 ad rfl I3
  · rw [if_neg c2] at q
    rw [if_neg c2, w_cons']
    simp
    rw [rvM I2 rfl rfl]
    refine ⟨_, rfl, ?_⟩
    simp
    exact pway_ok _ I2 W2 ht2 fun h3 I3 => q h3 ad rfl I3
theorem ppopReady (I : MI true F ad s h) {V : D → Hh → Prop} {cl : Fid → List D → Hh → Res D} {m : Nm} {t : Nat} {r : List Nat} (e : s.ready = t :: r) (q : ∀ h', MI true F ad { s with ready := r } h' → V (.int t) h') : Wp (methop cl (.bm .lpop) (.ref (ad .ready)) m [.int 0] h) V X := by
  have g : h[ad .ready]? = some (.lst ((t :: r).map fun (n : Nat) => .int n)) := by have := I.at_ .ready trivial; rw [this]; show some (O.lst (s.ready.map _)) = _; rw [e]
  rw [m_popi g (j := 0) (v := .int t) (ix_pos (i := 0) (by decide) (by rw [List.length_map, List.length_cons]; omega)) rfl]
  exact q _ (gready I)
theorem ppopReqs (I : MI true F ad s h) {V : D → Hh → Prop} {cl : Fid → List D → Hh → Res D} {m : Nm} {t : Rq} {r : List Rq} (e : s.reqs = t :: r) (q : ∀ h', MI true F ad { s with reqs := r } h' → V t.d h') : Wp (methop cl (.bm .lpop) (.ref (ad .reqs)) m [.int 0] h) V X := by
  have g : h[ad .reqs]? = some (.lst ((t :: r).map Rq.d)) := by have := I.at_ .reqs trivial; rw [this]; show some (O.lst (s.reqs.map _)) = _; rw [e]
  rw [m_popi g (j := 0) (v := t.d) (ix_pos (i := 0) (by decide) (by rw [List.length_map, List.length_cons]; omega)) rfl]
  exact q _ (greqs I)
/-- equality with the empty list -/
theorem q_nil {h : Hh} {n m : Nat} {l : List D} (e1 : h[n]? = some (.lst l)) (e2 : h[m]? = some (.lst [])) (ok : ∃ ps, mapO (pyH 63 h) l = some ps ∧ ps.length = l.length) : eqD h (.ref n) (.ref m) = some l.isEmpty := by
  obtain ⟨ps, h1, h2⟩ := ok
  unfold eqD
  have a : pyH 64 h (.ref n) = some (.list ps) := by
    simp only [pyH, e1, h1]
  have b : pyH 64 h (.ref m) = some (.list []) := by
    simp only [pyH, e2, mapO]
  rw [a, b]
  show some (PyData.eqv _ _) = _
  cases ps with
  | nil => cases l with
    | nil => rfl
    | cons _ _ => cases h2
  | cons p ps => cases l with
    | nil => cases h2
    | cons _ _ => rfl
theorem okMap {h : Hh} : ∀ {l : List D}, (∀ d ∈ l, okH 63 d = true) → ∃ ps, mapO (pyH 63 h) l = some ps ∧ ps.length = l.length
  | [], _ => ⟨[], rfl, rfl⟩
  | x :: r, e => by
    obtain ⟨p, h1, _⟩ := pyH_refl (h := h) 63 x (e x List.mem_cons_self)
    obtain ⟨ps, h3, h4⟩ := okMap (h := h) (l := r) fun d hd => e d (List.mem_cons_of_mem _ hd)
    refine ⟨p :: ps, ?_, by simp [h4]⟩
    unfold mapO
    rw [h1, h3]
theorem qReady {w : Bool} (I : MI w F ad s h) : eqD (h ++ [O.lst []]) (.ref (ad .ready)) (.ref h.length) = some s.ready.isEmpty := by
  rw [q_nil (l := s.ready.map fun (n : Nat) => .int n) (get_app _ (I.at_ .ready trivial)) get_new (okMap fun d hd => by obtain ⟨x, _, rfl⟩ := List.mem_map.mp hd; rfl)]
  cases s.ready <;> rfl
theorem qReqs {w : Bool} (I : MI w F ad s h) : eqD (h ++ [O.lst []]) (.ref (ad .reqs)) (.ref h.length) = some s.reqs.isEmpty := by
  rw [q_nil (l := s.reqs.map Rq.d) (get_app _ (I.at_ .reqs trivial)) get_new (okMap fun d hd => by obtain ⟨x, _, rfl⟩ := List.mem_map.mp hd; rfl)]
  cases s.reqs <;> rfl
theorem pgo_ok (k : Nat) (I : MI true F ad s h) (W : Wf cpus n s) (hn : n ≤ 9000) (hc : cpu < cpus) (q : ∀ h' ad', ad' .m = ad .m → MI true F ad' (s.go cpu) h' → Q .non h') :
    Wp (C (k + 7) ([77, 97, 99, 104, 105, 110, 101], [103, 111, 95, 111, 110]) [.ref (ad .m), .int cpu] h) Q X := by
  have hr := W.rl
  refine wcall P14 rfl rfl ?_
  simp [F14]
  rw [w_cons']
  simp
  rw [pRuns I, xRuns I (by omega), w_cons']
  simp
  unfold Ms.go at q
  by_cases c : 0 ≤ s.run cpu
  · rw [if_pos c] at q
    have hrun := W.runt hc c
    obtain ⟨t, et⟩ := Int.eq_ofNat_of_zero_le c
    rw [et] at q hrun ⊢
    simp only [Int.toNat_natCast] at q hrun
    rw [if_pos (by omega), w_cons']
    simp
    rw [rvM I rfl rfl]
    refine ⟨_, rfl, ?_⟩
    simp
    exact pinstr_ok _ I W hn hc hrun q
  · rw [if_neg c] at q
    rw [if_neg c, w_cons']
    simp
    rw [pReady I, qReady I]
    have I0 : MI true F ad s (h ++ [O.lst []]) := Re.app I _
    generalize h ++ [O.lst []] = h0 at I0 ⊢
    cases er : s.ready with
    | nil =>
      rw [er] at q
      simp
      exact q h0 ad rfl I0
    | cons t r =>
      rw [er] at q
      have htt : t < s.ths.length := W.rd t (by rw [er]; exact List.mem_cons_self)
      simp
      rw [w_cons']
      simp
      rw [pReady I0, r_pop (show h0[ad .ready]? = some (.lst _) from I0.at_ .ready trivial)]
      refine ⟨_, rfl, ?_⟩
      refine ppopReady I0 er fun h1 I1 => ?_
      rw [w_cons']
      simp
      rw [pRuns I1]
      refine sRuns I1 (by show cpu < s.runs.length; omega) fun h2 I2 => ?_
      rw [w_cons']
      simp
      rw [pThs I2, xThs I2 htt]
      refine pSetCond I2 htt (.running cpu) fun h3 I3 => ?_
      have I3 : MI true F ad (s.turn0 cpu t r) h3 := I3
      have ht3 : t < (s.turn0 cpu t r).ths.length := by rw [turn0_len]; exact htt
      rw [w_cons']
      simp
      rw [rvM I3 rfl rfl]
      refine ⟨_, rfl, ?_⟩
      rw [pThs I3, xThs I3 ht3, pPc I3 ht3]
      simp
      exact ptell_ok _ I3 (W.turn0 er) (by omega) hc ht3 (args := []) fun h4 I4 => q h4 ad rfl I4
theorem panswer_ok (k : Nat) (I : MI true F ad s h) (W : Wf cpus n s) (hn : n ≤ 9000) (hc : cpu < cpus) {q0 : Rq} {r : List Rq} (er : s.reqs = q0 :: r) (q : ∀ h', MI true F ad (s.answer cpu) h' → Q .non h') :
    Wp (C (k + 4) ([77, 97, 99, 104, 105, 110, 101], [97, 110, 115, 119, 101, 114]) [.ref (ad .m), .int cpu] h) Q X := by
  have hq := W.rq q0 (by rw [er]; exact List.mem_cons_self)
  refine wcall P13 rfl rfl ?_
  simp [F13]
  rw [w_cons']
  simp
  rw [pReqs I, r_pop (show h[ad .reqs]? = some (.lst _) from I.at_ .reqs trivial)]
  refine ⟨_, rfl, ?_⟩
  refine ppopReqs I er fun h1 I1 => ?_
  refine t_tup rfl ?_
  simp
  rw [w_cons']
  simp
  rw [pValue I1, w_cons']
  simp
  unfold Ms.answer at q
  rw [er] at q
  dsimp only at q
  have fin : ∀ (h2 : Hh), MI true F ad (s.ans0 q0 r) h2 → Wp (xss (C (k + 3)) prg.tb [.ex (.mth (.var 0) [116, 101, 108, 108] [.cst (.str [100, 111, 110, 101]), .var 1, .var 3, .idx (.fld (.idx (.fld (.var 0) [116, 104, 114, 101, 97, 100, 115]) (.var 3)) [99, 97, 108, 108]) (.cst (.int 1)), .tup [.var 4]]), .ex (.mth (.var 0) [103, 105, 118, 101, 95, 98, 97, 99, 107] [.var 1, .var 3, .var 2])]
      [some (.ref (ad .m)), some (.int cpu), some (.int (if q0.call = 3 then 0 else s.value)), some (.int q0.tid), some (.int q0.call), some (.int q0.num)] h2) (RetQ Q X) fun _ _ _ => False := by
    intro h2 I2
    have W2 := W.ans0 er
    have ht2 : q0.tid < (s.ans0 q0 r).ths.length := by rw [ans0_len]; exact hq.1
    rw [w_cons']
    simp
    rw [rvM I2 rfl rfl]
    refine ⟨_, rfl, ?_⟩
    rw [pThs I2, xThs I2 ht2, pCall I2 ht2]
    simp
    refine ptell_ok _ I2 W2 (by omega) hc ht2 (args := [q0.call]) fun h3 I3 => ?_
    rw [w_cons']
    simp
    rw [rvM I3 rfl rfl]
    refine ⟨_, rfl, ?_⟩
    simp
    refine pgive_ok _ I3 W2.tell (by omega) hc ht2 ?_ q
    split
    · decide
    · exact W.vl
  by_cases c : q0.call = 3
  · rw [if_pos c, w_cons']
    simp
    refine pSetValue I1 fun h2 I2 => ?_
    rw [w_cons']
    simp
    rw [if_pos c] at fin
    refine fin h2 ?_
    unfold Ms.ans0
    rw [if_pos c]
    exact I2
  · rw [if_neg c]
    rw [if_neg c] at fin
    refine fin h1 ?_
    unfold Ms.ans0
    rw [if_neg c]
    exact I1
end
end Zl

namespace Zl
open PySem Z
/-! MQ: the program's step; a new machine; log_of, events_of. -/
theorem x_sleep {h : Hh} {V : D → Hh → Prop} {X : XX} {c : Nat} {t : Int} : Wp (getix (Cond.sleeping c t).d (.int 2) h) V X ↔ V (.int t) h := by
  simp [Cond.d]
section
variable {F : Nat → Option O} {ad : Ro → Nat} {s : Ms} {h : Hh} {Q : D → Hh → Prop} {X : XX} {cpus n cpu tid : Nat}
structure RoI (F : Nat → Option O) (ad : Ro → Nat) (s : Ms) (cpu : Nat) (pick what : D) (i : Nat) (sg : Sg) (h : Hh) : Prop where
  I : MI true F ad (s.rouse cpu i) h
  s : ∃ x y, sg = [some (.ref (ad .m)), some pick, x, some (.int cpu), some what, y]
/-- the row of views anew -/
theorem pviews_new (I : MI true F ad s h) : MI true F (upA ad .views h.length) { s with views := [] } ((h ++ [O.lst []]).set (ad .m) (.ins [77, 97, 99, 104, 105, 110, 101] (fput (mF ad s.rates s.value) [118, 105, 101, 119, 115] (.ref h.length)))) := by
  have R1 := Re.app I [O.lst []]
  -- the machine's own first
  let ob1 : Ro → O := fun j => if j = .m then .ins [77, 97, 99, 104, 105, 110, 101] (fput (mF ad s.rates s.value) [118, 105, 101, 119, 115] (.ref h.length)) else ob true ad s j
  have R2 : Re F ad (act true s) ob1 ((h ++ [O.lst []]).set (ad .m) (.ins [77, 97, 99, 104, 105, 110, 101] (fput (mF ad s.rates s.value) [118, 105, 101, 119, 115] (.ref h.length)))) :=
    Re.set R1 .m trivial (fun _ => Iff.rfl) (fun j _ ne => if_neg ne) (if_pos rfl)
  have lv := I.lt (k := .views) trivial
  have lm := I.lt (k := .m) trivial
  have hn : ((h ++ [O.lst []]).set (ad .m) (.ins [77, 97, 99, 104, 105, 110, 101] (fput (mF ad s.rates s.value) [118, 105, 101, 119, 115] (.ref h.length))))[h.length]? = some (.lst []) := by
    rw [get_ne (by omega)]; exact get_new
  refine Re.move R2 .views (fun j aj _ => aj) hn (fun j aj => ?_) (I.nfL (Nat.le_refl _)) fun j aj ne => ?_
  · have := I.lt aj; omega
  · cases j with
    | m => rfl
    | views => exact absurd rfl ne
    | dev => cases aj
    | mems =>
      show O.lst (refs (upA ad .views h.length) .mem _) = _
      rfl
    | ths => rfl
    | _ => rfl
theorem pstep_ok (k : Nat) (I : MI true F ad s h) (W : Wf cpus n s) (hn : n ≤ 8000) (hc : cpu < cpus) {what : Nm} (q : ∀ h' ad', ad' .m = ad .m → MI true F ad' (s.step cpu what) h' → Q (.ref (ad' .views)) h') :
    Wp (C (k + 8) ([77, 97, 99, 104, 105, 110, 101], [115, 116, 101, 112]) [.ref (ad .m), .tup [.int cpu, .str what]] h) Q X := by
  have hr := W.rl
  refine wcall P12 rfl rfl ?_
  simp [F12]
  rw [w_cons']
  simp
  refine t_tup rfl ?_
  simp
  rw [w_cons']
  simp
  rw [f_set (get_app _ (mP I)) (by simp [mF]) (by simp [mF, fget])]
  have I1 := pviews_new I
  have em : upA ad .views h.length .m = ad .m := rfl
  generalize (h ++ [O.lst []]).set (ad .m) (.ins [77, 97, 99, 104, 105, 110, 101] (fput (mF ad s.rates s.value) [118, 105, 101, 119, 115] (.ref h.length))) = h1 at I1 ⊢
  generalize upA ad .views h.length = ad1 at I1 em
  rw [← em]
  rw [← em] at q
  rw [w_cons']
  simp
  rw [pTimes I1]
  refine ⟨by rw [ak_lst (show h1[ad1 .times]? = some (.lst _) from I1.at_ .times trivial)]; simp, ?_⟩
  rw [xTimes I1 (by show cpu < s.times.length; rw [W.tm]; exact hc), pRates I1]
  have hrt : (s.rates.map D.int)[cpu]? = some (.int (s.rate cpu)) := by
    unfold Ms.rate
    rw [List.getElem?_map, List.getD_eq_getElem?_getD, List.getElem?_eq_getElem (by rw [W.rt]; exact hc)]
    rfl
  show Wp (getix (.tup (s.rates.map .int)) (.int cpu) h1) _ _
  rw [x_tup, at_nat]
  refine ⟨_, hrt, ?_⟩
  simp
  refine sTimes I1 (by show cpu < s.times.length; rw [W.tm]; exact hc) fun h2 I2 => ?_
  have I2 : MI true F ad1 (s.start cpu) h2 := I2
  have W2 := W.start (cpu := cpu)
  have lw : (s.start cpu).ths.length = s.ths.length := rfl
  have q2 : ∀ h' ad', ad' .m = ad1 .m → MI true F ad' (if what = [115, 116, 101, 112] then ((s.start cpu).rouse cpu (s.start cpu).ths.length).go cpu else if what = [116, 105, 109, 101, 114] then ((s.start cpu).rouse cpu (s.start cpu).ths.length).timer cpu else ((s.start cpu).rouse cpu (s.start cpu).ths.length).answer cpu) h' → Q (.ref (ad' .views)) h' := q
  generalize s.start cpu = s2 at I2 W2 lw q2
  have tl := W2.tl
  rw [w_cons']
  simp
  rw [pThs I2, lenThs I2]
  refine ⟨_, rfl, by unfold inRng; simp; omega, ?_⟩
  refine wk_rng (fun i => RoI F ad1 s2 cpu (.tup [.int cpu, .str what]) (.str what) i.toNat) ⟨I2, _, _, rfl⟩ ?_ ?_ ?_
  · rintro sg h i ⟨_, x, y, rfl⟩
    simp
  · rintro i sg h4 i0 im ⟨I4, x, y, rfl⟩
    obtain ⟨i, rfl⟩ := Int.eq_ofNat_of_zero_le i0
    simp at im I4
    have hi : i < (s2.rouse cpu i).ths.length := by rw [rouse_len]; exact im
    have W4 := W2.rouse (cpu := cpu) i (by omega)
    simp
    unfold B12_0
    rw [w_cons']
    simp
    rw [pThs I4, xThs I4 hi, pCond I4 hi]
    rw [w_cons']
    simp
    rw [s_cond, q_sl]
    simp
    have e := rouse_succ (s := s2) (cpu := cpu) (i := i)
    have no : ((s2.rouse cpu i).th i).cond.due cpu ((s2.rouse cpu i).time cpu) = false → RoI F ad1 s2 cpu (.tup [.int cpu, .str what]) (.str what) (i + 1) [some (.ref (ad1 .m)), some (.tup [.int cpu, .str what]), some (.int i), some (.int cpu), some (.str what), some ((s2.rouse cpu i).th i).cond.d] h4 := by
      intro z
      rw [z] at e
      refine ⟨?_, _, _, rfl⟩
      rw [e]
      exact I4
    generalize hc4 : ((s2.rouse cpu i).th i).cond = c4 at no e
    cases c4 with
    | sleeping d u =>
      by_cases z : d = cpu
      · rw [if_pos (by simp [Cond.sl, z]), x_sleep, pTimes I4, xTimes I4 (by rw [W4.tm]; exact hc)]
        simp
        by_cases y : u ≤ (s2.rouse cpu i).time cpu
        · rw [if_pos y, w_cons']
          simp
          rw [rvM I4 rfl rfl]
          refine ⟨_, rfl, ?_⟩
          simp
          refine pgive_ok _ I4 W4 (by omega) hc hi (by decide) fun h5 I5 => ⟨?_, _, _, rfl⟩
          rw [if_pos (by simp [Cond.due, z, y])] at e
          show MI true F ad1 (s2.rouse cpu (i + 1)) h5
          rw [e]
          exact I5
        · rw [if_neg y]
          exact no (by simp [Cond.due, y])
      · have es : (Cond.sleeping d u).sl cpu = false := by simp [Cond.sl, z]
        simp only [es, Bool.false_eq_true, if_false]
        exact no (by simp [Cond.due, z])
    | _ =>
      simp only [Cond.sl, Bool.false_eq_true, if_false]
      exact no rfl
  · rintro sg h4 hI _
    obtain ⟨I4, x, y, rfl⟩ := hI (by omega)
    simp at I4
    simp
    have W4 := (W2.rouse (cpu := cpu) s2.ths.length (Nat.le_refl _)).mono (m := n + 16) (by omega)
    generalize s2.rouse cpu s2.ths.length = s4 at I4 W4 q2
    have rl4 := W4.rl
    rw [w_cons']
    simp
    have fin : ∀ (h5 : Hh) (ad5 : Ro → Nat), ad5 .m = ad1 .m → ∀ sx, MI true F ad5 sx h5 → (∀ h' ad', ad' .m = ad1 .m → MI true F ad' sx h' → Q (.ref (ad' .views)) h') →
        Wp (xss (C (k + 7)) prg.tb [.ret (.fld (.var 0) [118, 105, 101, 119, 115])] [some (.ref (ad1 .m)), some (.tup [.int cpu, .str what]), x, some (.int cpu), some (.str what), y] h5) (RetQ Q X) fun _ _ _ => False := by
      intro h5 ad5 e5 sx I5 q5
      rw [w_cons']
      simp
      rw [← e5, pViews I5]
      exact q5 h5 ad5 e5 I5
    by_cases c1 : what = [115, 116, 101, 112]
    · rw [if_pos c1] at q2
      simp only [c1, if_true]
      rw [w_cons']
      simp
      rw [rvM I4 rfl rfl]
      refine ⟨_, rfl, ?_⟩
      simp
      refine pgo_ok _ I4 W4 (by omega) hc fun h5 ad5 e5 I5 => ?_
      subst c1
      exact fin h5 ad5 e5 _ I5 q2
    rw [if_neg c1] at q2
    simp only [c1, if_false]
    rw [w_cons']
    simp
    by_cases c2 : what = [116, 105, 109, 101, 114]
    · rw [if_pos c2] at q2
      simp only [c2, if_true]
      rw [w_cons']
      simp
      rw [rvM I4 rfl rfl]
      refine ⟨_, rfl, ?_⟩
      simp
      refine ptick_ok _ I4 W4 (by omega) hc fun h5 I5 => ?_
      have W5 := W4.tick (cpu := cpu)
      subst c2
      unfold Ms.timer at q2
      rw [w_cons']
      simp
      rw [pRuns I5, xRuns I5 (by rw [W5.rl]; exact hc)]
      simp
      have er : (s4.tick cpu).run cpu = s4.run cpu := rfl
      rw [er]
      by_cases c3 : 0 ≤ s4.run cpu
      · rw [if_pos c3] at q2
        have hrun := W4.runt hc c3
        obtain ⟨t, et⟩ := Int.eq_ofNat_of_zero_le c3
        rw [if_pos c3, w_cons']
        simp
        rw [rvM I5 rfl rfl]
        refine ⟨_, rfl, ?_⟩
        rw [pRuns I5, xRuns I5 (by rw [W5.rl]; exact hc), er]
        rw [et] at q2 hrun ⊢
        simp only [Int.toNat_natCast] at q2 hrun
        refine pleave_ok _ I5 W5 (by omega) hc hrun (c := .ready) (fun e z => by cases z) fun h6 I6 => ?_
        exact fin h6 ad1 rfl _ I6 q2
      · rw [if_neg c3] at q2
        rw [if_neg c3]
        exact fin h5 ad1 rfl _ I5 q2
    rw [if_neg c2] at q2
    simp only [c2, if_false]
    rw [w_cons']
    simp
    rw [pReqs I4, qReqs I4]
    have I5 : MI true F ad1 s4 (h4 ++ [O.lst []]) := Re.app I4 _
    generalize h4 ++ [O.lst []] = h5 at I5 ⊢
    cases er : s4.reqs with
    | nil =>
      simp
      refine fin h5 ad1 rfl _ I5 ?_
      unfold Ms.answer at q2
      rw [er] at q2
      exact q2
    | cons q0 r =>
      simp
      rw [w_cons']
      simp
      rw [rvM I5 rfl rfl]
      refine ⟨_, rfl, ?_⟩
      simp
      refine panswer_ok _ I5 W4 (by omega) hc er fun h6 I6 => ?_
      exact fin h6 ad1 rfl _ I6 q2
end
end Zl

namespace Zl
open PySem Z
/-! MR: a new machine. -/
def s00 (mems : List (List Int)) (rates : List Int) : Ms := ⟨mems, rates, List.replicate rates.length 0, List.replicate rates.length (-1), [], [], 0, [], []⟩
def Ms.boots (s : Ms) (i : Nat) : Ms := (List.range i).foldl (fun s p => s.begin_ p 0 0) s
def boot (mems : List (List Int)) (rates : List Int) : Ms := (s00 mems rates).boots mems.length
theorem boots_succ {s : Ms} {i : Nat} : s.boots (i + 1) = (s.boots i).begin_ i 0 0 := by
  unfold Ms.boots
  rw [List.range_succ, List.foldl_append]
  rfl
theorem boots_len {s : Ms} : ∀ i, (s.boots i).ths.length = s.ths.length + i
  | 0 => rfl
  | i + 1 => by rw [boots_succ, begin_len, boots_len i]; omega
theorem boots_mems {s : Ms} : ∀ i, (s.boots i).mems = s.mems
  | 0 => rfl
  | i + 1 => by rw [boots_succ]; exact boots_mems i
structure MemOk (mems : List (List Int)) : Prop where
  l : mems.length ≤ 4
  m : ∀ m ∈ mems, m.length = 256 ∧ ∀ b ∈ m, 0 ≤ b ∧ b < 256
theorem s00_ok {mems : List (List Int)} {rates : List Int} (M : MemOk mems) : Wf rates.length 0 (s00 mems rates) where
  ml := Nat.le_trans M.l (by decide)
  mm := M.m
  tk := fun t h => by cases h
  tl := Nat.zero_le _
  tm := List.length_replicate ..
  rt := rfl
  rl := List.length_replicate ..
  rn := fun r h => .inl (List.eq_of_mem_replicate h)
  rd := fun t h => by cases h
  rq := fun t h => by cases h
  vl := Int.le_refl _
  s1 := Nat.le_refl _
  s2 := Nat.le_refl _
  s3 := Nat.le_refl _
theorem boots_ok {mems : List (List Int)} {rates : List Int} (M : MemOk mems) : ∀ i, i ≤ mems.length → Wf rates.length i ((s00 mems rates).boots i)
  | 0, _ => s00_ok M
  | i + 1, h => by
    have w := boots_ok (rates := rates) M i (by omega)
    rw [boots_succ]
    refine w.begin_ ?_ ?_ (by decide) (by decide) (by decide)
    · rw [boots_len]; have := M.l; show 0 + i < 8; omega
    · rw [boots_mems]; show i < mems.length; omega
theorem boot_ok {mems : List (List Int)} {rates : List Int} (M : MemOk mems) : Wf rates.length 4 (boot mems rates) := (boots_ok M mems.length (Nat.le_refl _)).mono M.l
/-! where a new machine lies -/
def ad0 (b : Nat → Nat) (as : List Nat) : Ro → Nat
  | .m => b 0 | .mems => b 1 | .times => b 2 | .runs => b 3 | .ths => b 4 | .ready => b 5 | .reqs => b 6 | .views => b 7 | .dev => b 8
  | .mem i => as.getD i 0
  | _ => 0
structure Lay (w : Bool) (b : Nat → Nat) (as : List Nat) (s : Ms) (h : Hh) : Prop where
  m : h[b 0]? = some (mO w (ad0 b as) s.rates s.value)
  mems : h[b 1]? = some (.lst (as.map .ref))
  times : h[b 2]? = some (.lst (s.times.map .int))
  runs : h[b 3]? = some (.lst (s.runs.map .int))
  ths : h[b 4]? = some (.lst [])
  ready : h[b 5]? = some (.lst [])
  reqs : h[b 6]? = some (.lst [])
  views : h[b 7]? = some (.lst [])
  dev : w = false → h[b 8]? = some (.lst [.int s.value, .ref (b 6)])
  mem : ∀ (i : Nat) (a : Nat) (m : List Int), as[i]? = some a → s.mems[i]? = some m → h[a]? = some (.lst (m.map .int))
theorem nodup_inj {l : List Nat} (n : l.Nodup) {i j : Nat} (hi : i < l.length) (hj : j < l.length) (e : l[i] = l[j]) : i = j := by
  have p := List.pairwise_iff_getElem.mp n
  rcases Nat.lt_trichotomy i j with z | z | z
  · exact absurd e (p i j hi hj z)
  · exact z
  · exact absurd e.symm (p j i hj hi z)
theorem mkMI {w : Bool} {F : Nat → Option O} {b : Nat → Nat} {as : List Nat} {mems : List (List Int)} {rates : List Int} {h : Hh} (L : Lay w b as (s00 mems rates) h) (hl : as.length = mems.length)
    (bne : ∀ i j, i ≤ 8 → j ≤ 8 → b i = b j → i = j) (asn : as.Nodup) (dis : ∀ a ∈ as, ∀ i, i ≤ 8 → a ≠ b i) (nf : ∀ i, i ≤ 8 → F (b i) = none) (nfa : ∀ a ∈ as, F a = none) (fo : ∀ n o, F n = some o → h[n]? = some o) : MI w F (ad0 b as) (s00 mems rates) h where
  fo := fo
  at_ := fun k ak => by
    cases k with
    | m => exact L.m
    | mems =>
      have : refs (ad0 b as) .mem mems.length = as.map .ref := by
        unfold refs
        rw [← hl]
        apply List.ext_getElem?
        intro i
        by_cases hi : i < as.length
        · simp [hi, ad0]
        · rw [List.getElem?_eq_none (by simpa using hi), List.getElem?_eq_none (by simpa using hi)]
      show h[b 1]? = some (.lst (refs (ad0 b as) .mem mems.length))
      rw [this]
      exact L.mems
    | times => exact L.times
    | runs => exact L.runs
    | ths => exact L.ths
    | ready => exact L.ready
    | reqs => exact L.reqs
    | views => exact L.views
    | dev => exact L.dev ak
    | mem i =>
      have hi : i < mems.length := ak
      have e1 : as[i]? = some (as.getD i 0) := by
        rw [List.getD_eq_getElem?_getD, List.getElem?_eq_getElem (by omega)]; rfl
      have e2 : mems[i]? = some (mems.getD i []) := by
        rw [List.getD_eq_getElem?_getD, List.getElem?_eq_getElem hi]; rfl
      exact L.mem i _ _ e1 e2
    | th i => cases ak
    | rg i => cases ak
  nf := fun k ak => by
    cases k with
    | mem i =>
      have hi : i < mems.length := ak
      refine nfa _ ?_
      show as.getD i 0 ∈ as
      rw [List.getD_eq_getElem?_getD, List.getElem?_eq_getElem (by omega)]
      exact List.getElem_mem _
    | th i => cases ak
    | rg i => cases ak
    | _ => exact nf _ (by decide)
  inj := fun j k aj ak e => by
    have mm : ∀ i, i < mems.length → as.getD i 0 ∈ as := fun i hi => by
      rw [List.getD_eq_getElem?_getD, List.getElem?_eq_getElem (by omega)]
      exact List.getElem_mem _
    cases j with
    | th i => cases aj
    | rg i => cases aj
    | mem i => cases k with
      | th i => cases ak
      | rg i => cases ak
      | mem i' =>
        have hi : i < mems.length := aj
        have hi' : i' < mems.length := ak
        have e : as.getD i 0 = as.getD i' 0 := e
        rw [List.getD_eq_getElem?_getD, List.getD_eq_getElem?_getD, List.getElem?_eq_getElem (by omega), List.getElem?_eq_getElem (by omega)] at e
        have : i = i' := nodup_inj asn _ _ e
        rw [this]
      | _ => exact absurd e (dis _ (mm i aj) _ (by decide))
    | _ => cases k with
      | th i => cases ak
      | rg i => cases ak
      | mem i' => exact absurd e.symm (dis _ (mm i' ak) _ (by decide))
      | _ => first | rfl | (have := bne _ _ (by decide) (by decide) e; omega)

/-! the memories -/
def memOf (p : List Int) : List Int := p ++ List.replicate (256 - p.length) 0
theorem memOf_len {p : List Int} (h : p.length ≤ 256) : (memOf p).length = 256 := by simp [memOf]; omega
abbrev F1_ : Nat → Prop := fun _ => False
def memX (v : Nat) : E := .bin .Add (.blt .list [.var v]) (.bin .Mult (.lst [.cst (.int 0)]) (.bin .Sub (.cst (.int 256)) (.blt .len [.var v])))
structure MeI (h0 : Hh) (ps : List (List Int)) (i : Nat) (acc : List D) (h : Hh) : Prop where
  ex : ∃ as : List Nat, acc = as.map .ref ∧ as.length = i ∧ (∀ a ∈ as, h0.length ≤ a ∧ a < h.length) ∧ as.Pairwise (· < ·) ∧ ∀ (j : Nat) (a : Nat) (p : List Int), as[j]? = some a → ps[j]? = some p → h[a]? = some (.lst ((memOf p).map .int))
  f : Fr F1_ h0 h
theorem mem_comp {cl : Fid → List D → Hh → Res D} {tb : Tb} {sg : Sg} {h : Hh} {v : Nat} {ps : List (List Int)} {V : D → Hh → Prop} {X : XX} (hv : v < sg.length) (hp : ∀ p ∈ ps, p.length ≤ 256) (hz : ps.length ≤ 1000)
    (q : ∀ (h' : Hh) (as : List Nat), as.length = ps.length → (∀ a ∈ as, h.length ≤ a ∧ a < h'.length) → as.Pairwise (· < ·) → (∀ (j : Nat) (a : Nat) (p : List Int), as[j]? = some a → ps[j]? = some p → h'[a]? = some (.lst ((memOf p).map .int))) → Fr F1_ h h' → V (.ref h'.length) (h' ++ [.lst (as.map .ref)])) :
    Wp (compR cl tb [v] (.nm v) none (memX v) (.pur (ps.map tI)) sg h) V X := by
  refine cr_pur_I (MeI h ps) ⟨⟨[], rfl, rfl, (fun _ z => by cases z), .nil, (fun j a p z => by simp at z)⟩, Fr.refl⟩ (by simp; omega) (fun i x acc h1 ex I => ?_) fun acc h1 I => ?_
  · obtain ⟨⟨as, e1, e2, e3, e4, e5⟩, f1⟩ := I
    rw [List.getElem?_map] at ex
    obtain ⟨p, ep, rfl⟩ := Option.map_eq_some_iff.mp ex
    have hpl := hp p (List.mem_of_getElem? ep)
    rw [t_nm]
    refine ⟨by simp [wipes]; exact hv, ?_⟩
    have hsg : ((wipes sg [v]).set v (some (tI p)))[v]? = some (some (tI p)) := List.getElem?_set_self (by simp [wipes]; exact hv)
    generalize (wipes sg [v]).set v (some (tI p)) = sg1 at hsg ⊢
    unfold memX
    simp
    refine ⟨_, hsg, _, rfl, _, hsg, ?_⟩
    show Wp (bltop .len [.tup (p.map .int)] _) _ _
    rw [b_lent]
    simp
    have g2 : (h1 ++ [O.lst (p.map .int), O.lst [.int 0]])[h1.length + 1]? = some (.lst [.int 0]) := by simp
    rw [o_repl g2 (by simp; omega) (by omega) (by omega)]
    simp
    have erp : repL [D.int 0] (256 - (p.length : Int)) = (List.replicate (256 - p.length) (0 : Int)).map D.int := by
      simp [repL]
    rw [erp]
    refine ⟨by simp; omega, ?_⟩
    have em : p.map D.int ++ (List.replicate (256 - p.length) (0 : Int)).map D.int = (memOf p).map .int := by simp [memOf]
    rw [em]
    refine ⟨⟨as ++ [h1.length + 3], ?_, by simp [e2], fun a ha => ?_, ?_, fun j a p' ea ep' => ?_⟩, f1.trans (Fr.app _)⟩
    · rw [e1]; simp
    · rcases List.mem_append.mp ha with z | z
      · have := e3 a z; simp; omega
      · rw [List.mem_singleton.mp z]; have := f1.le; simp; omega
    · rw [List.pairwise_append]
      refine ⟨e4, by simp, fun a ha b hb => ?_⟩
      rw [List.mem_singleton.mp hb]
      have := e3 a ha
      omega
    · by_cases hj : j < as.length
      · rw [List.getElem?_append_left hj] at ea
        have := e5 j a p' ea ep'
        exact get_app _ this
      · have hj2 : j = as.length := by
          by_cases z : j = as.length
          · exact z
          · rw [List.getElem?_eq_none (by simp; omega)] at ea; cases ea
        subst hj2
        rw [e2, ep] at ep'
        cases ep'
        simp at ea
        subst ea
        rw [List.getElem?_append_right (by omega)]
        simp
  · obtain ⟨⟨as, e1, e2, e3, e4, e5⟩, f1⟩ := I
    subst e1
    exact q h1 as (by simpa using e2) e3 e4 e5 f1
end Zl

namespace Zl
open PySem Z
/-! MS: the program's machine is made; log_of. -/
theorem set_app1 {h : Hh} {a : Nat} {o : O} {l : List O} (ha : a < h.length) : (h ++ l).set a o = h.set a o ++ l := List.set_append_left _ _ ha
theorem f_setA {tb : Tb} {h : Hh} {a : Nat} {c : Nm} {fs : List (Nm × D)} {L : List O} {f : Nm} {v : D} {U : Unit → Hh → Prop} {X : XX} (ha : a < h.length) (hl : fs.length < 1000) (hf : ((fget fs f).isSome || tb.at_ c f) = true)
    (q : U () (h.set a (.ins c (fput fs f v)) ++ L)) : Wp (setfl tb (.ref a) f v (h.set a (.ins c fs) ++ L)) U X := by
  have g : (h.set a (.ins c fs) ++ L)[a]? = some (.ins c fs) := by
    rw [List.getElem?_append_left (by simpa using ha)]
    exact List.getElem?_set_self ha
  rw [f_set g hl hf, set_app1 (by simpa using ha), List.set_set]
  exact q
theorem at_app {h : Hh} {n : Nat} {L : List O} {i : Nat} (e : n = h.length + i) : (h ++ L)[n]? = L[i]? := by
  rw [e, List.getElem?_append_right (by omega)]
  congr 1
  omega
theorem rep_list (j : Int) (n : Nat) (x : Int) (hj : j = n) : repL [D.int x] j = (List.replicate n x).map D.int := by
  subst hj
  simp [repL]
def bP (a l : Nat) (i : Nat) : Nat := if i = 0 then a else if i ≤ 2 then l + 2 * (i - 1) else l + i + 1
theorem bP_ne {a l : Nat} (h : a < l) (i j : Nat) (e : bP a l i = bP a l j) : i = j := by
  unfold bP at e
  by_cases i0 : i = 0
  · by_cases j0 : j = 0
    · omega
    · rw [if_pos i0, if_neg j0] at e
      split at e <;> omega
  · rw [if_neg i0] at e
    by_cases j0 : j = 0
    · rw [if_pos j0] at e
      split at e <;> omega
    · rw [if_neg j0] at e
      split at e <;> split at e <;> omega
theorem bP_pos {a l : Nat} (i : Nat) (h : i ≠ 0) : l ≤ bP a l i := by
  unfold bP
  rw [if_neg h]
  split <;> omega
structure BoI (F : Nat → Option O) (a : Nat) (s0 : Ms) (ps : D) (rs : D) (i : Nat) (sg : Sg) (h : Hh) : Prop where
  I : ∃ ad, ad .m = a ∧ MI true F ad (s0.boots i) h
  s : ∃ x y, sg = [some (.ref a), some ps, some rs, x, y]
theorem pmake_ok (k : Nat) {F : Nat → Option O} {h0 : Hh} {ps : List (List Int)} {rates : List Int} {Q : D → Hh → Prop} {X : XX} (hp : ∀ p ∈ ps, p.length ≤ 256 ∧ ∀ b ∈ p, 0 ≤ b ∧ b < 256) (hz : ps.length ≤ 4) (hr : rates.length ≤ 100) (fo : ∀ n o, F n = some o → h0[n]? = some o)
    (q : ∀ h' ad, ad .m = h0.length → MI true F ad (boot (ps.map memOf) rates) h' → Q .non h') :
    Wp (C (k + 3) ([77, 97, 99, 104, 105, 110, 101], [95, 95, 105, 110, 105, 116, 95, 95]) [.ref h0.length, .tup (ps.map tI), tI rates] (h0 ++ [.ins [77, 97, 99, 104, 105, 110, 101] []])) Q X := by
  have M : MemOk (ps.map memOf) := ⟨by simpa using hz, fun m hm => by
    obtain ⟨p, h1, rfl⟩ := List.mem_map.mp hm
    refine ⟨memOf_len (hp p h1).1, fun b hb => ?_⟩
    rcases List.mem_append.mp hb with z | z
    · exact (hp p h1).2 b z
    · rw [List.eq_of_mem_replicate z]; decide⟩
  refine wcall P1 rfl rfl ?_
  simp [F1]
  rw [w_cons']
  simp
  refine mem_comp (v := 4) (show 4 < 5 by decide) (fun p h1 => (hp p h1).1) (by omega) fun h1 as hal has hasn hmem f1 => ?_
  have la : h0.length < h1.length := by have := f1.le; simp at this; omega
  have ga : h1[h0.length]? = some (.ins [77, 97, 99, 104, 105, 110, 101] []) := f1.get get_new (fun z => z)
  have old1 : ∀ n, n < h0.length → h1[n]? = h0[n]? := fun n hn => by rw [f1.eq n (by simp; omega) (fun z => z), List.getElem?_append_left hn]
  have e1 : h1 = h1.set h0.length (.ins [77, 97, 99, 104, 105, 110, 101] []) := by
    apply List.ext_getElem?
    intro i
    by_cases z : h0.length = i
    · subst z; rw [ga, List.getElem?_set_self la]
    · rw [List.getElem?_set_ne z]
  have e2 : h1 ++ [O.lst (as.map .ref)] = h1.set h0.length (.ins [77, 97, 99, 104, 105, 110, 101] []) ++ [O.lst (as.map .ref)] := by rw [← e1]
  rw [e2]
  refine f_setA la (by decide) rfl ?_
  rw [w_cons']
  simp
  refine f_setA la (show (1 : Nat) < 1000 by decide) rfl ?_
  rw [w_cons']
  simp
  show Wp (bltop .len [.tup (rates.map .int)] _) _ _
  rw [b_lent, o_repl (xs := [.int 0]) (by rw [at_app (i := 1) (by simp)]; rfl) (by simp; omega) (by omega) (by simp; omega), rep_list _ rates.length 0 (by simp), List.append_assoc]
  refine f_setA la (show (2 : Nat) < 1000 by decide) rfl ?_
  rw [w_cons']
  simp
  show Wp (bltop .len [.tup (rates.map .int)] _) _ _
  rw [b_lent, o_repl (xs := [.int (-1)]) (by rw [at_app (i := 3) (by simp)]; rfl) (by simp; omega) (by omega) (by simp; omega), rep_list _ rates.length (-1) (by simp), List.append_assoc]
  refine f_setA la (show (3 : Nat) < 1000 by decide) rfl ?_
  rw [w_cons']
  simp
  refine f_setA la (show (4 : Nat) < 1000 by decide) rfl ?_
  rw [w_cons']
  simp
  refine f_setA la (show (5 : Nat) < 1000 by decide) rfl ?_
  rw [w_cons']
  simp
  refine f_setA la (show (6 : Nat) < 1000 by decide) rfl ?_
  rw [w_cons']
  simp
  refine f_setA la (show (7 : Nat) < 1000 by decide) rfl ?_
  rw [w_cons']
  simp
  refine f_setA la (show (8 : Nat) < 1000 by decide) rfl ?_
  rw [w_cons']
  simp
  have Lh : Lay true (bP h0.length h1.length) as (s00 (ps.map memOf) rates) (h1.set h0.length (.ins [77, 97, 99, 104, 105, 110, 101] (mF (ad0 (bP h0.length h1.length) as) rates 0)) ++ [.lst (as.map .ref), .lst [.int 0], .lst ((List.replicate rates.length (0 : Int)).map .int), .lst [.int (-1)], .lst ((List.replicate rates.length (-1 : Int)).map .int), .lst [], .lst [], .lst [], .lst []]) := by
    refine ⟨?_, ?_, ?_, ?_, ?_, ?_, ?_, ?_, (fun z => by cases z), fun i a m e1 e2 => ?_⟩
    · rw [List.getElem?_append_left (by simpa [bP] using la)]
      exact List.getElem?_set_self la
    · rw [at_app (i := 0) (by simp [bP])]; rfl
    · rw [at_app (i := 2) (by simp [bP])]; rfl
    · rw [at_app (i := 4) (by simp [bP])]; rfl
    · rw [at_app (i := 5) (by simp [bP])]; rfl
    · rw [at_app (i := 6) (by simp [bP])]; rfl
    · rw [at_app (i := 7) (by simp [bP])]; rfl
    · rw [at_app (i := 8) (by simp [bP])]; rfl
    · have ha := has a (List.mem_of_getElem? e1)
      simp at ha
      have e2 : (ps.map memOf)[i]? = some m := e2
      rw [List.getElem?_map] at e2
      obtain ⟨p, ep, rfl⟩ := Option.map_eq_some_iff.mp e2
      rw [List.getElem?_append_left (by simp; omega), List.getElem?_set_ne (by omega)]
      exact hmem i a p e1 ep
  have nfF : ∀ n, h0.length ≤ n → F n = none := fun n hn => by
    cases e : F n with
    | none => rfl
    | some o => have := lt_of (fo n o e); omega
  have I0 := mkMI (F := F) Lh (by simpa using hal) (fun i j _ _ e => bP_ne la i j e) (hasn.imp fun {x y} z => Nat.ne_of_lt z) (fun a ha i _ => by
      have hb := has a ha
      simp at hb
      by_cases z : i = 0
      · subst z; simp [bP]; omega
      · have := bP_pos (a := h0.length) (l := h1.length) i z; omega) (fun i _ => nfF _ (by
      by_cases z : i = 0
      · subst z; simp [bP]
      · have := bP_pos (a := h0.length) (l := h1.length) i z; omega)) (fun a ha => nfF _ (by have := has a ha; simp at this; omega)) (fun n o e => by
      have hn := lt_of (fo n o e)
      rw [List.getElem?_append_left (by simp; omega), List.getElem?_set_ne (by omega), old1 n hn]
      exact fo n o e)
  rw [List.map_replicate, List.map_replicate] at I0
  refine ⟨by unfold inRng; simp; omega, ?_⟩
  refine wk_rng (fun i => BoI F h0.length (s00 (ps.map memOf) rates) (.tup (ps.map tI)) (tI rates) i.toNat) ⟨⟨_, rfl, I0⟩, _, _, rfl⟩ ?_ ?_ ?_
  · rintro sg h i ⟨_, x, y, rfl⟩
    simp
  · rintro i sg h2 i0 im ⟨⟨ad, em, I2⟩, x, y, rfl⟩
    obtain ⟨i, rfl⟩ := Int.eq_ofNat_of_zero_le i0
    simp at im I2
    have W2 := boots_ok (rates := rates) M i (by simpa using Nat.le_of_lt im)
    simp
    unfold B1_1
    rw [w_cons']
    simp
    rw [← em, rvM I2 rfl rfl]
    refine ⟨_, rfl, ?_⟩
    simp
    refine pbegin_ok _ I2 W2 (by omega) fun h3 ad3 e3 I3 => ?_
    refine ⟨⟨ad3, e3, ?_⟩, _, _, rfl⟩
    show MI true F ad3 ((s00 (ps.map memOf) rates).boots (i + 1)) h3
    rw [boots_succ]
    exact I3
  · rintro sg h2 hI _
    obtain ⟨⟨ad, em, I2⟩, x, y, rfl⟩ := hI (by omega)
    simp at I2
    simp
    refine q h2 ad em ?_
    unfold boot
    simpa using I2

/-! ### log_of -/
abbrev Pk := Nat × Nm
def Pk.d (p : Pk) : D := .tup [.int p.1, .str p.2]
def lg (x : Ms × List Vw) (p : Pk) : Ms × List Vw := (x.1.step p.1 p.2, x.2 ++ (x.1.step p.1 p.2).views)
def logs (s : Ms) (ps : List Pk) (i : Nat) : Ms × List Vw := (ps.take i).foldl lg (s, [])
theorem logs_succ {s : Ms} {ps : List Pk} {i : Nat} {p : Pk} (e : ps[i]? = some p) : logs s ps (i + 1) = lg (logs s ps i) p := by
  unfold logs
  rw [List.take_add_one, e, List.foldl_append]
  rfl
def PkOk (cpus : Nat) (ps : List Pk) : Prop := ∀ p ∈ ps, p.1 < cpus ∧ (p.2 = [115, 116, 101, 112] ∨ p.2 = [116, 105, 109, 101, 114] ∨ p.2 = [100, 101, 118, 105, 99, 101])
theorem logs_ok {cpus : Nat} {s : Ms} {ps : List Pk} (W : Wf cpus 4 s) (P : PkOk cpus ps) : ∀ i, i ≤ ps.length → Wf cpus (4 + 35 * i) (logs s ps i).1 ∧ (logs s ps i).2.length ≤ i * (4 + 35 * i)
  | 0, _ => ⟨W, Nat.zero_le _⟩
  | i + 1, h => by
    obtain ⟨w, l⟩ := logs_ok W P i (by omega)
    have e : ps[i]? = some ps[i] := List.getElem?_eq_getElem (by omega)
    rw [logs_succ e]
    have w2 := w.step (P _ (List.mem_of_getElem? e)).1 (what := ps[i].2)
    refine ⟨w2.mono (by omega), ?_⟩
    have l2 := w2.s3
    show ((logs s ps i).2 ++ ((logs s ps i).1.step ps[i].1 ps[i].2).views).length ≤ _
    rw [List.length_append]
    have e1 : (i + 1) * (4 + 35 * (i + 1)) = i * (4 + 35 * i) + 35 * i + (4 + 35 * (i + 1)) := by
      rw [Nat.succ_mul, show 4 + 35 * (i + 1) = 4 + 35 * i + 35 by omega, Nat.mul_add i (4 + 35 * i) 35]
      omega
    omega
def fu (F : Nat → Option O) (v : Nat) (o : O) : Nat → Option O := fun n => if n = v then some o else F n
theorem fu_eq {F : Nat → Option O} {v : Nat} {o : O} : fu F v o v = some o := if_pos rfl
theorem fu_ne {F : Nat → Option O} {v n : Nat} {o : O} (e : n ≠ v) : fu F v o n = F n := if_neg e
section
variable {w : Bool} {F : Nat → Option O} {ad : Ro → Nat} {s : Ms} {h : Hh}
/-- a new foreign object -/
theorem MI.add (I : MI w F ad s h) (o : O) : MI w (fu F h.length o) ad s (h ++ [o]) := { Re.app I [o] with
  nf := fun k ak => by
    have := I.lt ak
    rw [fu_ne (by omega)]
    exact I.nf k ak
  fo := fun n o' e => by
    by_cases z : n = h.length
    · subst z; rw [fu_eq] at e; cases e; exact get_new
    · rw [fu_ne z] at e; exact get_app _ (I.fo n o' e) }
/-- a foreign object is written -/
theorem MI.wr {v : Nat} {o : O} (I : MI w (fu F v o) ad s h) (o' : O) : MI w (fu F v o') ad s (h.set v o') where
  at_ := fun k ak => by
    have := I.nf k ak
    have ne : v ≠ ad k := fun z => by rw [← z, fu_eq] at this; cases this
    rw [get_ne ne]; exact I.at_ k ak
  inj := I.inj
  nf := fun k ak => by
    have := I.nf k ak
    by_cases z : ad k = v
    · rw [z, fu_eq] at this; cases this
    · rw [fu_ne z] at this ⊢; exact this
  fo := fun n o2 e => by
    by_cases z : n = v
    · subst z
      rw [fu_eq] at e; cases e
      exact get_set (I.fo n o fu_eq)
    · rw [fu_ne z] at e
      rw [get_ne (Ne.symm z)]
      exact I.fo n o2 (by rw [fu_ne z]; exact e)
end
end Zl

namespace Zl
open PySem Z
/-! ML: the law's machine does what the plain one does. -/
section
variable {F : Nat → Option O} {ad : Ro → Nat} {s : Ms} {h : Hh} {Q : D → Hh → Prop} {X : XX} {cpus n cpu tid : Nat}
theorem ltell_ok (k : Nat) (I : MI false F ad s h) (W : Wf cpus n s) (hn : n ≤ 10000000) (hc : cpu < cpus) (ht : tid < s.ths.length) {kind : Nm} {a : Int} {args : List Int} (q : ∀ h', MI false F ad (s.tell kind cpu tid a args) h' → Q .non h') :
    Wp (C (k + 1) ([], [95, 108, 97, 119, 95, 116, 101, 108, 108]) [.ref (ad .m), .str kind, .int cpu, .int tid, .int a, tI args] h) Q X := by
  have hp := (W.t ht).pid
  refine wcall P27 rfl rfl ?_
  simp [F27]
  rw [w_cons']
  simp
  rw [w_cons']
  simp
  rw [w_cons']
  simp
  rw [w_cons']
  simp
  rw [w_cons']
  simp
  rw [lThs I, xThs I ht, lPid I ht, w_cons']
  simp
  rw [lThs I, xThs I ht, lRegs I ht]
  refine ⟨_, tupRg I ht, ?_⟩
  rw [w_cons']
  simp
  rw [lMems I, xMems I hp]
  refine ⟨_, tupMem I hp, ?_⟩
  rw [w_cons']
  simp
  rw [lViews I, raViews I]
  refine ⟨_, rfl, ?_⟩
  rw [lTimes I, xTimes I (by rw [W.tm]; exact hc)]
  refine aViews I (s.view kind cpu tid a args) (by have := W.s3; omega) fun h1 I1 => ?_
  exact q h1 I1
theorem ltick_ok (k : Nat) (I : MI false F ad s h) (W : Wf cpus n s) (hn : n ≤ 10000000) (hc : cpu < cpus) (q : ∀ h', MI false F ad (s.tick cpu) h' → Q .non h') :
    Wp (C (k + 1) ([], [95, 108, 97, 119, 95, 116, 101, 108, 108]) [.ref (ad .m), .str [116, 105, 99, 107], .int cpu, .int (-1), .int (-1), .tup []] h) Q X := by
  refine wcall P27 rfl rfl ?_
  simp [F27]
  rw [w_cons']
  simp
  rw [w_cons']
  simp
  rw [w_cons']
  simp
  rw [w_cons']
  simp
  rw [w_cons']
  simp
  rw [lViews I, raViews I]
  refine ⟨_, rfl, ?_⟩
  rw [lTimes I, xTimes I (by rw [W.tm]; exact hc)]
  refine aViews I ⟨[116, 105, 99, 107], cpu, s.time cpu, -1, -1, -1, [], [0, 0, 0, 0], [], false⟩ (by have := W.s3; omega) fun h1 I1 => ?_
  exact q h1 I1
theorem loff_ok (k : Nat) (I : MI false F ad s h) (W : Wf cpus n s) (hn : n ≤ 1000000) (hc : cpu < cpus) (ht : tid < s.ths.length) {c : Cond} (hce : ∀ e, c = .ended e → 0 ≤ e) {r : Int} (q : ∀ h', MI false F ad (s.leave cpu tid c r) h' → Q .non h') :
    Wp (C (k + 2) ([], [95, 108, 97, 119, 95, 111, 102, 102]) [.ref (ad .m), .int cpu, .int tid, c.d, .int r] h) Q X := by
  refine wcall P29 rfl rfl ?_
  simp [F29]
  rw [w_cons']
  simp
  rw [lThs I, xThs I ht]
  refine lSetCond I ht c fun h1 I1 => ?_
  rw [w_cons']
  simp
  rw [lRuns I1]
  refine sRuns I1 (by have := W.rl; show cpu < s.runs.length; omega) fun h2 I2 => ?_
  rw [w_cons']
  simp
  rw [q_ready]
  simp
  have ht2 : tid < (s.leave0 cpu tid c).ths.length := by rw [leave0_len]; exact ht
  have W3 := W.leave0 (cpu := cpu) ht hce
  have fin : ∀ h3, MI false F ad (s.leave0 cpu tid c) h3 → Wp (xss (C (k + 1)) prg.tb [.ex (.call ([], [95, 108, 97, 119, 95, 116, 101, 108, 108]) [.var 0, .cst (.str [111, 102, 102]), .var 1, .var 2, .idx (.idx (.idx (.var 0) (.cst (.str [116, 104, 114, 101, 97, 100, 115]))) (.var 2)) (.cst (.str [112, 99])), .tup [.var 4]])] [some (.ref (ad .m)), some (.int cpu), some (.int tid), some c.d, some (.int r)] h3) (RetQ Q X) fun _ _ _ => False := by
    intro h3 I3
    rw [w_cons']
    simp
    rw [lThs I3, xThs I3 ht2, lPc I3 ht2]
    exact ltell_ok _ I3 W3 (by omega) hc ht2 (args := [r]) q
  by_cases e : c = .ready
  · rw [if_pos e, w_cons']
    simp
    rw [lReady I2, raReady I2]
    refine ⟨_, rfl, ?_⟩
    refine aReady I2 (by have := W.s1; show s.ready.length < _; omega) fun h3 I3 => ?_
    refine fin h3 ?_
    unfold Ms.leave0
    rw [if_pos e]
    exact I3
  · rw [if_neg e]
    refine fin h2 ?_
    unfold Ms.leave0
    rw [if_neg e]
    exact I2
theorem lret_ok (k : Nat) (I : MI false F ad s h) (W : Wf cpus n s) (hn : n ≤ 1000000) (hc : cpu < cpus) (ht : tid < s.ths.length) {r : Int} (hr : 0 ≤ r) (q : ∀ h', MI false F ad (s.give cpu tid r) h' → Q .non h') :
    Wp (C (k + 2) ([], [95, 108, 97, 119, 95, 114, 101, 116, 117, 114, 110, 115]) [.ref (ad .m), .int cpu, .int tid, .int r] h) Q X := by
  refine wcall P28 rfl rfl ?_
  simp [F28]
  rw [w_cons']
  simp
  rw [lThs I, xThs I ht, w_cons']
  simp
  rw [lRegs I ht]
  refine sRg I ht (j := 0) (by decide) (by rw [(W.t ht).rl]; decide) fun h1 I1 => ?_
  have I1 : MI false F ad (s.give0 tid r) h1 := I1
  have ht1 : tid < (s.give0 tid r).ths.length := by rw [give0_len]; exact ht
  have W1 := W.give0 ht hr
  rw [w_cons']
  simp
  rw [lCall I1 ht1]
  simp
  rw [lCall I1 ht1]
  simp
  refine ltell_ok _ I1 W1 (by omega) hc ht1 (args := [((s.give0 tid r).th tid).c0, r]) fun h2 I2 => ?_
  have I2 : MI false F ad (s.give1 cpu tid r) h2 := I2
  have ht2 : tid < (s.give1 cpu tid r).ths.length := by rw [give1_len]; exact ht
  have W2 := W.give1 (cpu := cpu) ht hr
  rw [w_cons']
  simp
  rw [lCond I2 ht2, x_cond]
  simp
  by_cases e : ((s.give1 cpu tid r).th tid).cond.nm = [114, 117, 110, 110, 105, 110, 103]
  · rw [if_pos e]
    have := q h2
    unfold Ms.give at this
    rw [if_pos e] at this
    exact this I2
  · rw [if_neg e, w_cons']
    simp
    refine lSetCond I2 ht2 .ready fun h3 I3 => ?_
    rw [w_cons']
    simp
    rw [lReady I3, raReady I3]
    refine ⟨_, rfl, ?_⟩
    refine aReady I3 (by have := W2.s1; show (s.give1 cpu tid r).ready.length < _; omega) fun h4 I4 => ?_
    have := q h4
    unfold Ms.give at this
    rw [if_neg e] at this
    exact this I4
structure WlI (F : Nat → Option O) (ad : Ro → Nat) (s : Ms) (cpu tid : Nat) (a code : Int) (i : Nat) (sg : Sg) (h : Hh) : Prop where
  I : MI false F ad (s.wake cpu tid code i) h
  s : ∃ x, sg = [some (.ref (ad .m)), some (.int cpu), some (.int tid), some (.int a), some (.int code), x]
theorem lend_ok (k : Nat) (I : MI false F ad s h) (W : Wf cpus n s) (hn : n ≤ 100000) (hc : cpu < cpus) (ht : tid < s.ths.length) {a code : Int} (h0 : 0 ≤ code) (q : ∀ h', MI false F ad (s.finish cpu tid a code) h' → Q .non h') :
    Wp (C (k + 3) ([], [95, 108, 97, 119, 95, 101, 110, 100, 115]) [.ref (ad .m), .int cpu, .int tid, .int a, .int code] h) Q X := by
  refine wcall P30 rfl rfl ?_
  simp [F30]
  rw [w_cons']
  simp
  refine ltell_ok _ I W (by omega) hc ht (args := [code]) fun h1 I1 => ?_
  have ht1 : tid < (s.tell [101, 110, 100] cpu tid a [code]).ths.length := ht
  rw [w_cons']
  simp
  rw [lThs I1, xThs I1 ht1]
  refine lSetCond I1 ht1 (.ended code) fun h2 I2 => ?_
  rw [w_cons']
  simp
  rw [lRuns I2]
  refine sRuns I2 (by have := W.rl; show cpu < s.runs.length; omega) fun h3 I3 => ?_
  have I3 : MI false F ad (s.fin0 cpu tid a code) h3 := I3
  have W3 := W.fin0 (cpu := cpu) (at_ := a) ht h0
  have q : ∀ h', MI false F ad ((s.fin0 cpu tid a code).wake cpu tid code (s.fin0 cpu tid a code).ths.length) h' → Q .non h' := q
  generalize s.fin0 cpu tid a code = s3 at I3 W3 q
  have tl := W3.tl
  rw [w_cons']
  simp
  rw [lThs I3, lenThs I3]
  refine ⟨_, rfl, by unfold inRng; simp; omega, ?_⟩
  refine wk_rng (fun i => WlI F ad s3 cpu tid a code i.toNat) ⟨I3, _, rfl⟩ ?_ ?_ ?_
  · rintro sg h i ⟨_, x, rfl⟩
    simp
  · rintro i sg h4 i0 im ⟨I4, x, rfl⟩
    obtain ⟨i, rfl⟩ := Int.eq_ofNat_of_zero_le i0
    simp at im I4
    have hi : i < (s3.wake cpu tid code i).ths.length := by rw [wake_len]; exact im
    have W4 := W3.wake (cpu := cpu) (t := tid) h0 i (by omega)
    simp
    unfold B30_0
    rw [w_cons']
    simp
    rw [lThs I4, xThs I4 hi, lCond I4 hi, q_wait]
    simp
    have e := wake_succ (s := s3) (cpu := cpu) (t := tid) (code := code) (i := i)
    by_cases c : ((s3.wake cpu tid code i).th i).cond = .waiting tid
    · rw [if_pos c, w_cons']
      simp
      refine lret_ok _ I4 W4 (by omega) hc hi h0 fun h5 I5 => ⟨?_, _, rfl⟩
      rw [if_pos c] at e
      show MI false F ad (s3.wake cpu tid code (i + 1)) h5
      rw [e]
      exact I5
    · rw [if_neg c]
      rw [if_neg c] at e
      refine ⟨?_, _, rfl⟩
      show MI false F ad (s3.wake cpu tid code (i + 1)) h4
      rw [e]
      exact I4
  · rintro sg h4 hI _
    obtain ⟨I4, x, rfl⟩ := hI (by omega)
    simp at I4
    simp
    exact q h4 I4
theorem lbegin_ok (k : Nat) (I : MI false F ad s h) (W : Wf cpus n s) (hn : n ≤ 1000000) {pid : Nat} {pc first : Int} (q : ∀ h' ad', ad' .m = ad .m → MI false F ad' (s.begin_ pid pc first) h' → Q .non h') :
    Wp (C (k + 1) ([], [95, 108, 97, 119, 95, 98, 101, 103, 105, 110]) [.ref (ad .m), .int pid, .int pc, .int first] h) Q X := by
  have tl := W.tl
  refine wcall P26 rfl rfl ?_
  simp [F26]
  rw [w_cons']
  simp
  rw [lThs I, raThs I]
  refine ⟨_, rfl, ?_⟩
  refine ⟨[(.str [112, 105, 100], .int pid), (.str [112, 99], .int pc), (.str [114, 101, 103, 115], .ref h.length), (.str [105, 115], .tup [.str [114, 101, 97, 100, 121]]), (.str [99, 97, 108, 108], .tup [.int 0, .int 0])], rfl, ?_⟩
  have lth := I.lt (k := .ths) trivial
  have b1 : (h ++ [O.lst [.int first, .int 0, .int 0, .int 0], .dct [(.str [112, 105, 100], .int pid), (.str [112, 99], .int pc), (.str [114, 101, 103, 115], .ref h.length), (.str [105, 115], .tup [.str [114, 101, 97, 100, 121]]), (.str [99, 97, 108, 108], .tup [.int 0, .int 0])]])[h.length]? = some (.lst [.int first, .int 0, .int 0, .int 0]) := by simp
  have a1 : (h ++ [O.lst [.int first, .int 0, .int 0, .int 0], .dct [(.str [112, 105, 100], .int pid), (.str [112, 99], .int pc), (.str [114, 101, 103, 115], .ref h.length), (.str [105, 115], .tup [.str [114, 101, 97, 100, 121]]), (.str [99, 97, 108, 108], .tup [.int 0, .int 0])]])[h.length + 1]? = some (thO false h.length ⟨pid, pc, [first, 0, 0, 0], .ready, 0, 0⟩) := by simp [thO, Cond.d]
  have ex : ∀ m, m < h.length → (h ++ [O.lst [.int first, .int 0, .int 0, .int 0], .dct [(.str [112, 105, 100], .int pid), (.str [112, 99], .int pc), (.str [114, 101, 103, 115], .ref h.length), (.str [105, 115], .tup [.str [114, 101, 97, 100, 121]]), (.str [99, 97, 108, 108], .tup [.int 0, .int 0])]])[m]? = h[m]? := fun m hm => List.getElem?_append_left hm
  generalize h ++ [O.lst [.int first, .int 0, .int 0, .int 0], .dct [(.str [112, 105, 100], .int pid), (.str [112, 99], .int pc), (.str [114, 101, 103, 115], .ref h.length), (.str [105, 115], .tup [.str [114, 101, 97, 100, 121]]), (.str [99, 97, 108, 108], .tup [.int 0, .int 0])]] = h1 at a1 b1 ex ⊢
  have e1 : h1[ad .ths]? = some (.lst (refs ad .th s.ths.length)) := (ex _ lth).trans (I.at_ .ths trivial)
  rw [m_append e1 (by simp [refs]; omega)]
  have I1 := gnew I ex a1 b1 (by omega) (Nat.le_refl _) (by omega)
  have ep : (upA (upA ad (.rg s.ths.length) h.length) (.th s.ths.length) (h.length + 1)) .m = ad .m := rfl
  generalize upA (upA ad (.rg s.ths.length) h.length) (.th s.ths.length) (h.length + 1) = ad1 at I1 ep
  generalize h1.set (ad .ths) (.lst (refs ad .th s.ths.length ++ [.ref (h.length + 1)])) = h2 at I1 ⊢
  rw [w_cons']
  simp
  rw [← ep, lReady I1, raReady I1]
  refine ⟨_, rfl, ?_⟩
  rw [lThs I1, lenThs I1]
  simp
  refine aReady I1 (n := s.ths.length) (by have := W.s1; show s.ready.length < _; omega) fun h3 I3 => ?_
  exact q h3 ad1 ep I3
theorem in34l {h : Hh} {v : Int} : isIn (h ++ [O.lst [.int 3, .int 4]]) (.int v) (.ref h.length) = some (decide (v = 3 ∨ v = 4)) := by
  unfold isIn
  dsimp only
  rw [get_new]
  exact in34 (h := h) (v := v)
end
end Zl

namespace Zl
open PySem Z
/-! MM: the law's calls and instructions. -/
section
variable {F : Nat → Option O} {ad : Ro → Nat} {s : Ms} {h : Hh} {Q : D → Hh → Prop} {X : XX} {cpus n cpu tid : Nat}
theorem reg_cset (ht : tid < s.ths.length) {a b : Int} {j : Nat} : (s.cset tid a b).reg tid j = s.reg tid j := by
  unfold Ms.reg Ms.cset
  rw [th_up ht]
theorem reg_entry (ht : tid < s.ths.length) {a b : Int} {j : Nat} : (s.entry cpu tid a b).reg tid j = s.reg tid j := reg_cset ht
theorem pid_cset (ht : tid < s.ths.length) {a b : Int} : ((s.cset tid a b).th tid).pid = (s.th tid).pid := by
  unfold Ms.cset
  rw [th_up ht]
theorem lcall_ok (k : Nat) (I : MI false F ad s h) (W : Wf cpus n s) (hn : n ≤ 9000) (hc : cpu < cpus) (ht : tid < s.ths.length) {a number : Int} (q : ∀ h' ad', ad' .m = ad .m → MI false F ad' ((s.entry cpu tid a number).call cpu tid a number) h' → Q .non h') :
    Wp (C (k + 4) ([], [95, 108, 97, 119, 95, 99, 97, 108, 108]) [.ref (ad .m), .int cpu, .int tid, .int a, .int number] h) Q X := by
  have K := W.t ht
  have hr := K.rl
  refine wcall P31 rfl rfl ?_
  simp [F31]
  rw [w_cons']
  simp
  rw [lThs I, xThs I ht, w_cons']
  simp
  rw [lRegs I ht, xRg I ht (j := 0) (by decide) (by omega)]
  show Wp (xss (C (k + 3)) prg.tb _ [some (.ref (ad .m)), some (.int cpu), some (.int tid), some (.int a), some (.int number), some (.ref (ad (.th tid))), some (.int (s.reg tid 0)), none] h) _ _
  rw [w_cons']
  simp
  refine lSetCall I ht fun h1 I1 => ?_
  have I1 : MI false F ad (s.cset tid number a) h1 := I1
  have W1 := W.cset (a := number) (b := a) ht
  have ht1 : tid < (s.cset tid number a).ths.length := by show tid < (s.up tid _).ths.length; rw [up_len]; exact ht
  rw [w_cons']
  simp
  rw [lRegs I1 ht1, xRg I1 ht1 (j := 1) (by decide) (by rw [(W1.t ht1).rl]; decide)]
  rw [← reg_cset (a := number) (b := a) (j := 0) ht]
  refine ltell_ok _ I1 W1 (by omega) hc ht1 (args := [number, (s.cset tid number a).reg tid 0, (s.cset tid number a).reg tid 1]) fun h2 I2 => ?_
  have I2 : MI false F ad (s.entry cpu tid a number) h2 := I2
  have er : (s.cset tid number a).reg tid 0 = (s.entry cpu tid a number).reg tid 0 := rfl
  rw [er]
  have W2 := W.entry (cpu := cpu) (at_ := a) (first := number) ht
  have ht2 : tid < (s.entry cpu tid a number).ths.length := by rw [entry_len]; exact ht
  clear er
  generalize s.entry cpu tid a number = s2 at q I2 W2 ht2 ⊢
  have hn2 : n + 1 ≤ 10000 := by omega
  generalize n + 1 = n2 at W2 hn2
  have rl2 := (W2.t ht2).rl
  rw [w_cons']
  simp
  unfold Ms.call at q
  by_cases c0 : number = 0
  · rw [if_pos c0] at q
    simp only [c0, if_true]
    rw [w_cons']
    simp
    exact lend_ok _ I2 W2 (by omega) hc ht2 (W2.reg ht2 0) fun h' I' => q h' ad rfl I'
  rw [if_neg c0] at q
  simp only [c0, if_false]
  rw [w_cons']
  simp
  by_cases c1 : number = 1
  · rw [if_pos c1] at q
    simp only [c1, if_true]
    rw [w_cons']
    simp
    refine lret_ok _ I2 W2 (by omega) hc ht2 (by decide) fun h3 I3 => ?_
    rw [w_cons']
    simp
    exact loff_ok _ I3 (W2.give ht2 (by decide)) (by omega) hc (by rw [give_len]; exact ht2) (c := .ready) (fun e z => by cases z) fun h' I' => q h' ad rfl I'
  rw [if_neg c1] at q
  simp only [c1, if_false]
  rw [w_cons']
  simp
  by_cases c2 : number = 2
  · rw [if_pos c2] at q
    simp only [c2, if_true]
    rw [w_cons']
    simp
    rw [lTimes I2, xTimes I2 (by rw [W2.tm]; exact hc)]
    exact loff_ok _ I2 W2 (by omega) hc ht2 (c := .sleeping cpu (s2.time cpu + s2.reg tid 0)) (fun e z => by cases z) fun h' I' => q h' ad rfl I'
  rw [if_neg c2] at q
  simp only [c2, if_false]
  rw [w_cons']
  simp
  rw [in34l]
  have I3 : MI false F ad s2 (h2 ++ [O.lst [.int 3, .int 4]]) := Re.app I2 _
  generalize h2 ++ [O.lst [.int 3, .int 4]] = h3 at I3 ⊢
  simp
  by_cases c3 : number = 3 ∨ number = 4
  · rw [if_pos c3] at q
    rw [if_pos c3, w_cons']
    simp
    rw [lDev I3, lDev1 I3, raReqs I3]
    refine ⟨_, rfl, ?_⟩
    refine aReqs I3 (n := ⟨tid, number, s2.reg tid 0⟩) (by have := W2.s2; omega) fun h4 I4 => ?_
    have I4 : MI false F ad (s2.ask tid number) h4 := I4
    rw [w_cons']
    simp
    exact loff_ok _ I4 (W2.ask ht2) (by omega) hc ht2 (c := .asking) (fun e z => by cases z) fun h' I' => q h' ad rfl I'
  rw [if_neg c3] at q
  rw [if_neg c3, w_cons']
  simp
  have last : ∀ (PQ : Fl × Sg → Hh → Prop) (z : Option D) (f : Option D), (∀ sg h', Q .non h' → PQ (.nx, sg) h') → (∀ h', MI false F ad (s2.give cpu tid 65535) h' → Q .non h') →
      Wp (xss (C (k + 3)) prg.tb [.ex (.call ([], [95, 108, 97, 119, 95, 114, 101, 116, 117, 114, 110, 115]) [.var 0, .var 1, .var 2, .cst (.int 65535)])] [some (.ref (ad .m)), some (.int cpu), some (.int tid), some (.int a), some (.int number), z, f, none] h3) PQ fun _ _ _ => False := by
    intro PQ z f pq q
    rw [w_cons']
    simp
    exact lret_ok _ I3 W2 (by omega) hc ht2 (by decide) fun h' I' => pq _ _ (q h' I')
  by_cases c5 : number = 5
  · rw [if_pos c5] at q
    simp only [c5, if_true]
    unfold Ms.newth at q
    rw [lThs I3, lenThs I3]
    simp
    by_cases c8 : s2.ths.length < 8
    · rw [if_pos c8] at q
      rw [if_pos (by omega), w_cons']
      simp
      have hp := (W2.t ht2).pid
      rw [lPid I3 ht2, lRegs I3 ht2, xRg I3 ht2 (j := 1) (by decide) (by omega)]
      obtain ⟨f1, f2⟩ := fm (i := s2.reg tid 0) (m := 256) (by decide)
      refine lbegin_ok _ I3 W2 (by omega) (pc := (s2.reg tid 0).fmod 256) (first := s2.reg tid 1) fun h4 ad4 e4 I4 => ?_
      have W4 := W2.begin_ c8 (first := s2.reg tid 1) hp f1 f2 ((W2.t ht2).reg 1)
      rw [w_cons']
      simp
      rw [← e4, lThs I4, lenThs I4, begin_len]
      have el : ((s2.ths.length + 1 : Nat) : Int) - 1 = s2.ths.length := by omega
      simp only [o_sub, el]
      refine lret_ok _ I4 W4 (by omega) hc (by rw [begin_len]; omega) (by omega) fun h5 I5 => ?_
      exact q h5 ad4 e4 I5
    · rw [if_neg c8] at q
      rw [if_neg (by omega), w_cons']
      simp
      subst c5
      exact last _ _ _ (fun _ _ z => z) fun h' I' => q h' ad rfl I'
  rw [if_neg c5] at q
  simp only [c5, if_false]
  rw [w_cons']
  simp
  by_cases c6 : number = 6
  · rw [if_pos c6] at q
    simp only [c6, if_true]
    unfold Ms.wait at q
    rw [lThs I3, lenThs I3]
    simp
    obtain ⟨o, eo⟩ := Int.eq_ofNat_of_zero_le (W2.reg ht2 0)
    rw [eo] at q ⊢
    by_cases c7 : (s2.ths.length : Int) ≤ o ∨ (o : Int) = tid
    · rw [if_pos c7] at q
      have q : ∀ h', MI false F ad (s2.give cpu tid 65535) h' → Q .non h' := fun h' I' => q h' ad rfl I'
      subst c6
      by_cases c8 : o < s2.ths.length
      · have c9 : o = tid := by omega
        rw [if_pos (by omega), if_pos (by omega)]
        exact last _ _ _ (fun _ _ z => z) q
      · rw [if_neg (by omega), if_neg (by omega)]
        exact last _ _ _ (fun _ _ z => z) q
    · rw [if_neg c7] at q
      have c8 : o < s2.ths.length := by omega
      have c9 : ¬ o = tid := by omega
      simp only [Int.toNat_natCast] at q
      rw [if_pos (by omega), if_neg (by omega), w_cons']
      simp
      rw [lThs I3, xThs I3 c8, lCond I3 c8, w_cons']
      simp
      rw [x_cond]
      simp
      cases hcd : (s2.th o).cond with
      | ended cc =>
        rw [hcd] at q
        simp [Cond.nm]
        rw [w_cons']
        simp [Cond.d]
        exact lret_ok _ I3 W2 (by omega) hc ht2 ((W2.t c8).en cc hcd) fun h' I' => q h' ad rfl I'
      | _ =>
        rw [hcd] at q
        simp [Cond.nm]
        rw [w_cons']
        simp
        exact loff_ok _ I3 W2 (by omega) hc ht2 (c := .waiting o) (fun e z => by cases z) fun h' I' => q h' ad rfl I'
  rw [if_neg c6] at q
  simp only [c6, if_false]
  exact last _ _ _ (fun _ _ z => z) fun h' I' => q h' ad rfl I'

theorem fm_self {a : Int} (h0 : 0 ≤ a) (h1 : a < 256) : a.fmod 256 = a := by
  rw [Int.fmod_eq_emod_of_nonneg _ (by decide)]
  exact Int.emod_eq_of_lt h0 h1
theorem sub_eq {a b : Int} : (a + 65536 - b).fmod 65536 = (a - b).fmod 65536 := by
  rw [Int.fmod_eq_emod_of_nonneg _ (by decide), Int.fmod_eq_emod_of_nonneg _ (by decide)]
  omega
theorem xByte (I : MI false F ad s h) (W : Wf cpus n s) {pid : Nat} (hp : pid < s.mems.length) {a : Int} (h0 : 0 ≤ a) (h1 : a < 256) {V : D → Hh → Prop} {X : XX} : Wp (getix (.ref (ad (.mem pid))) (.int a) h) V X ↔ V (.int (s.byte pid a)) h := by
  rw [xMem I hp h0 (by rw [W.mlen hp]; exact h1)]
  unfold Ms.byte
  rw [fm_self h0 h1]
theorem byte_fm {pid : Nat} {a : Int} : s.byte pid (a.fmod 256) = s.byte pid a := by
  unfold Ms.byte
  rw [fm_self (fm (by decide)).1 (fm (by decide)).2]
theorem rset_pcset (ht : tid < s.ths.length) {j : Nat} {v p : Int} : (s.rset tid j v).pcset tid p = (s.pcset tid p).rset tid j v := by
  unfold Ms.rset Ms.pcset
  rw [th_up ht, th_up ht]
  unfold Ms.up
  simp
theorem linstr_ok (k : Nat) (I : MI false F ad s h) (W : Wf cpus n s) (hn : n ≤ 8900) (hc : cpu < cpus) (ht : tid < s.ths.length) (q : ∀ h' ad', ad' .m = ad .m → MI false F ad' (s.instr cpu tid) h' → Q .non h') :
    Wp (C (k + 5) ([], [95, 108, 97, 119, 95, 105, 110, 115, 116, 114, 117, 99, 116, 105, 111, 110]) [.ref (ad .m), .int cpu, .int tid] h) Q X := by
  have K := W.t ht
  refine wcall P32 rfl rfl ?_
  simp [F32]
  rw [w_cons']
  simp
  rw [lThs I, xThs I ht, w_cons']
  simp
  rw [lMems I, lPid I ht, xMems I K.pid, w_cons']
  simp
  rw [lPc I ht, w_cons']
  simp
  rw [xByte I W K.pid K.pc0 K.pc1, w_cons']
  simp
  rw [xByte I W K.pid (fm (by decide)).1 (fm (by decide)).2, byte_fm, w_cons']
  simp
  rw [xByte I W K.pid (fm (by decide)).1 (fm (by decide)).2, byte_fm, w_cons']
  simp
  rw [lRegs I ht, w_cons']
  simp
  unfold Ms.instr at q
  dsimp only at q
  have hb := W.byte K.pid (s.th tid).pc
  have hp := K.pid
  generalize (s.th tid).pc = at_ at q hb ⊢
  generalize s.byte (s.th tid).pid at_ = code at q hb ⊢
  generalize s.byte (s.th tid).pid (at_ + 1) = first at q ⊢
  generalize s.byte (s.th tid).pid (at_ + 2) = second at q ⊢
  by_cases c13 : 13 ≤ code
  · rw [if_pos c13] at q
    rw [if_neg (by omega), w_cons']
    simp
    rw [lPc I ht, w_cons']
    simp
    refine ltell_ok _ I W (by omega) hc ht (args := [code]) fun h1 I1 => ?_
    rw [w_cons']
    simp
    rw [w_cons']
    simp
    rw [w_cons']
    simp
    rw [if_pos (by omega), w_cons']
    simp
    refine ltell_ok _ I1 W.tell (by omega) hc ht (args := [code]) fun h2 I2 => ?_
    rw [w_cons']
    simp
    exact lend_ok _ I2 W.tell.tell (by omega) hc ht (by decide) fun h3 I3 => q h3 ad rfl I3
  rw [if_neg c13] at q
  rw [if_pos (by omega), w_cons']
  simp
  rw [x_lst get_new]
  refine ⟨_, lens_at hb.1 (by omega), ?_⟩
  simp
  have I0 : MI false F ad s (h ++ [O.lst (lens.map .int)]) := Re.app I _
  show Wp (setix _ _ _ (h ++ [O.lst (lens.map .int)])) _ _
  generalize h ++ [O.lst (lens.map .int)] = h0 at I0 ⊢
  refine lSetPc I0 ht fun h1 I1 => ?_
  have I1 : MI false F ad (s.pcset tid ((at_ + lenOf code).fmod 256)) h1 := I1
  have W1 := W.pcset ht (fm (i := at_ + lenOf code) (m := 256) (by decide)).1 (fm (by decide)).2
  have ht1 : tid < (s.pcset tid ((at_ + lenOf code).fmod 256)).ths.length := by show tid < (s.up tid _).ths.length; rw [up_len]; exact ht
  rw [w_cons']
  simp
  rw [lPc I1 ht1, w_cons']
  simp
  refine ltell_ok _ I1 W1 (by omega) hc ht1 (args := [code]) fun h2 I2 => ?_
  have epc : ((s.pcset tid ((at_ + lenOf code).fmod 256)).th tid).pc = ((s.instr0 cpu tid at_ code).th tid).pc := rfl
  have epid : (s.th tid).pid = ((s.instr0 cpu tid at_ code).th tid).pid := by
    show _ = ((s.up tid _).th tid).pid
    rw [th_up ht]
  rw [epc]
  replace I2 : MI false F ad (s.instr0 cpu tid at_ code) h2 := I2
  have W2 := W.instr0 (cpu := cpu) (at_ := at_) (code := code) ht
  have ht2 : tid < (s.instr0 cpu tid at_ code).ths.length := by rw [instr0_len]; exact ht
  rw [epid]
  clear epc epid
  generalize s.instr0 cpu tid at_ code = s2 at q I2 W2 ht2 ⊢
  rw [w_cons']
  simp
  rw [w_cons']
  simp
  rw [w_cons']
  simp
  rw [if_neg (by omega), w_cons']
  simp
  have K2 := W2.t ht2
  have hr2 := K2.rl
  have hm2 := W2.mlen K2.pid
  obtain ⟨a1, a2⟩ := fm (i := first.fdiv 4) (m := 4) (by decide)
  obtain ⟨b1, b2⟩ := fm (i := first) (m := 4) (by decide)
  unfold Ms.work Ms.way at q
  dsimp only at q
  generalize (first.fdiv 4).fmod 4 = a at a1 a2 q ⊢
  generalize first.fmod 4 = b at b1 b2 q ⊢
  have rg : ∀ {V : D → Hh → Prop} {X : XX} {j : Int}, 0 ≤ j → j < 4 → (Wp (getix (.ref (ad (.rg tid))) (.int j) h2) V X ↔ V (.int (s2.reg tid j.toNat)) h2) := by
    intro V X j j0 j4
    rw [xRg I2 ht2 j0 (by omega)]
    exact Iff.rfl
  have st : ∀ {j v : Int} {U : Unit → Hh → Prop} {X : XX}, 0 ≤ j → j < 4 → (∀ h', MI false F ad (s2.rset tid j.toNat v) h' → U () h') → Wp (setix (.ref (ad (.rg tid))) (.int j) (.int v) h2) U X := fun j0 j4 q => sRg I2 ht2 j0 (by omega) q
  have hcs : code = 0 ∨ code = 1 ∨ code = 2 ∨ code = 3 ∨ code = 4 ∨ code = 5 ∨ code = 6 ∨ code = 7 ∨ code = 8 ∨ code = 9 ∨ code = 10 ∨ code = 11 ∨ code = 12 := by omega
  rcases hcs with rfl | rfl | rfl | rfl | rfl | rfl | rfl | rfl | rfl | rfl | rfl | rfl | rfl
  · simp at q ⊢
    rw [w_cons']
    simp
    exact lend_ok _ I2 W2 (by omega) hc ht2 (by decide) fun h3 I3 => q h3 ad rfl I3
  · simp at q ⊢
    rw [w_cons']
    simp
    rw [w_cons']
    simp
    exact st b1 b2 fun h3 I3 => q h3 ad rfl I3
  · simp at q ⊢
    rw [w_cons']
    simp
    rw [w_cons']
    simp
    rw [w_cons']
    simp
    rw [rg a1 a2, rg b1 b2]
    exact st a1 a2 fun h3 I3 => q h3 ad rfl I3
  · simp at q ⊢
    rw [w_cons']
    simp
    rw [w_cons']
    simp
    rw [w_cons']
    simp
    rw [w_cons']
    simp
    rw [rg a1 a2]
    simp
    rw [rg b1 b2]
    simp
    rw [sub_eq]
    exact st a1 a2 fun h3 I3 => q h3 ad rfl I3
  · simp at q ⊢
    rw [w_cons']
    simp
    rw [w_cons']
    simp
    rw [w_cons']
    simp
    rw [w_cons']
    simp
    rw [w_cons']
    simp
    rw [rg b1 b2]
    exact st a1 a2 fun h3 I3 => q h3 ad rfl I3
  · simp at q ⊢
    rw [w_cons']
    simp
    rw [w_cons']
    simp
    rw [w_cons']
    simp
    rw [w_cons']
    simp
    rw [w_cons']
    simp
    rw [w_cons']
    simp
    rw [rg b1 b2]
    simp
    rw [xByte I2 W2 K2.pid (fm (by decide)).1 (fm (by decide)).2, byte_fm]
    exact st a1 a2 fun h3 I3 => q h3 ad rfl I3
  · simp at q ⊢
    rw [w_cons']
    simp
    rw [w_cons']
    simp
    rw [w_cons']
    simp
    rw [w_cons']
    simp
    rw [w_cons']
    simp
    rw [w_cons']
    simp
    rw [w_cons']
    simp
    rw [rg a1 a2]
    simp
    rw [rg b1 b2]
    simp
    exact sMem I2 K2.pid (fm (by decide)).1 (by rw [hm2]; exact (fm (by decide)).2) fun h3 I3 => q h3 ad rfl I3
  · simp at q ⊢
    rw [w_cons']
    simp
    rw [w_cons']
    simp
    rw [w_cons']
    simp
    rw [w_cons']
    simp
    rw [w_cons']
    simp
    rw [w_cons']
    simp
    rw [w_cons']
    simp
    rw [w_cons']
    simp
    refine lSetPc I2 ht2 fun h3 I3 => ?_
    rw [w_cons']
    simp
    exact q h3 ad rfl I3
  · simp at q ⊢
    rw [w_cons']
    simp
    rw [w_cons']
    simp
    rw [w_cons']
    simp
    rw [w_cons']
    simp
    rw [w_cons']
    simp
    rw [w_cons']
    simp
    rw [w_cons']
    simp
    rw [w_cons']
    simp
    rw [w_cons']
    simp
    rw [rg b1 b2]
    simp
    by_cases z : s2.reg tid b.toNat = 0
    · rw [if_pos z] at q
      rw [if_pos z, w_cons']
      simp
      exact lSetPc I2 ht2 fun h3 I3 => q h3 ad rfl I3
    · rw [if_neg z] at q
      rw [if_neg z]
      exact q h2 ad rfl I2
  · simp at q ⊢
    rw [w_cons']
    simp
    rw [w_cons']
    simp
    rw [w_cons']
    simp
    rw [w_cons']
    simp
    rw [w_cons']
    simp
    rw [w_cons']
    simp
    rw [w_cons']
    simp
    rw [w_cons']
    simp
    rw [w_cons']
    simp
    rw [rg b1 b2]
    simp
    by_cases z : s2.reg tid b.toNat = 0
    · simp only [z, if_true] at q ⊢
      exact q h2 ad rfl I2
    · simp only [z, if_false] at q ⊢
      rw [w_cons']
      simp
      exact lSetPc I2 ht2 fun h3 I3 => q h3 ad rfl I3
  · simp at q ⊢
    rw [w_cons']
    simp
    rw [w_cons']
    simp
    rw [w_cons']
    simp
    rw [w_cons']
    simp
    rw [w_cons']
    simp
    rw [w_cons']
    simp
    rw [w_cons']
    simp
    rw [w_cons']
    simp
    rw [w_cons']
    simp
    rw [w_cons']
    simp
    exact lcall_ok _ I2 W2 (by omega) hc ht2 q
  · simp at q ⊢
    rw [w_cons']
    simp
    rw [w_cons']
    simp
    rw [w_cons']
    simp
    rw [w_cons']
    simp
    rw [w_cons']
    simp
    rw [w_cons']
    simp
    rw [w_cons']
    simp
    rw [w_cons']
    simp
    refine lSetPc I2 ht2 fun h3 I3 => ?_
    replace I3 : MI false F ad (s2.pcset tid first) h3 := I3
    have ht3 : tid < (s2.pcset tid first).ths.length := by show tid < (s2.up tid _).ths.length; rw [up_len]; exact ht2
    rw [w_cons']
    simp
    rw [w_cons']
    simp
    refine sRg I3 ht3 (j := 3) (by decide) (by unfold Ms.pcset; rw [th_up ht2]; show (3 : Int) < (s2.th tid).regs.length; omega) fun h4 I4 => ?_
    rw [rset_pcset ht2] at q
    exact q h4 ad rfl I4
  · simp at q ⊢
    rw [w_cons']
    simp
    rw [w_cons']
    simp
    rw [w_cons']
    simp
    rw [w_cons']
    simp
    rw [w_cons']
    simp
    rw [w_cons']
    simp
    rw [w_cons']
    simp
    rw [w_cons']
    simp
    rw [w_cons']
    simp
    rw [w_cons']
    simp
    rw [xRg I2 ht2 (j := 3) (by decide) (by omega)]
    simp
    exact lSetPc I2 ht2 fun h3 I3 => q h3 ad rfl I3
end
end Zl

namespace Zl
open PySem Z
/-! MN: the law's step, its model. -/
section
variable {F : Nat → Option O} {ad : Ro → Nat} {s : Ms} {h : Hh} {Q : D → Hh → Prop} {U : Unit → Hh → Prop} {X : XX} {cpus n cpu tid : Nat}
/-- one of the law's lists stands elsewhere -/
theorem lmove (I : MI false F ad s h) {o : O} (k : Ro) {s' : Ms} (hk : k = .views ∨ k = .ready) (ea : ∀ j, act false s' j → act false s j) (eo : ob false (upA ad k h.length) s' k = o) (em : ∀ j, act false s j → j ≠ k → j ≠ .m → ob false (upA ad k h.length) s' j = ob false ad s j) {od : O} (ed : ob false (upA ad k h.length) s' .m = od) :
    MI false F (upA ad k h.length) s' ((h ++ [o]).set (ad .m) od) := by
  have R1 := Re.app I [o]
  have km : k ≠ .m := by rcases hk with z | z <;> rw [z] <;> simp
  let ob1 : Ro → O := fun j => if j = .m then od else ob false ad s j
  have R2 : Re F ad (act false s) ob1 ((h ++ [o]).set (ad .m) od) :=
    Re.set R1 .m trivial (fun _ => Iff.rfl) (fun j _ ne => if_neg ne) (if_pos rfl)
  have lm := I.lt (k := .m) trivial
  have hn : ((h ++ [o]).set (ad .m) od)[h.length]? = some (ob false (upA ad k h.length) s' k) := by
    rw [get_ne (by omega), eo]; exact get_new
  refine Re.move R2 k (fun j aj _ => ea j aj) hn (fun j aj => ?_) (I.nfL (Nat.le_refl _)) fun j aj ne => ?_
  · have := I.lt aj; omega
  · by_cases z : j = .m
    · subst z
      show _ = (if _ then _ else _)
      rw [if_pos rfl, ed]
    · show _ = (if _ then _ else _)
      rw [if_neg z, em j aj ne z]
theorem lviews_new (I : MI false F ad s h) : MI false F (upA ad .views h.length) { s with views := [] } ((h ++ [O.lst []]).set (ad .m) (.dct (dput (mD ad s.rates) (.str [101, 118, 101, 110, 116, 115]) (.ref h.length)))) := by
  refine lmove (s' := { s with views := [] }) I .views (.inl rfl) (fun j a => a) rfl (fun j aj ne nm => ?_) rfl
  cases j <;> first | rfl | exact absurd rfl ne | exact absurd rfl nm
theorem lready_new (I : MI false F ad s h) {r : List Nat} : MI false F (upA ad .ready h.length) { s with ready := r } ((h ++ [O.lst (r.map fun (n : Nat) => .int n)]).set (ad .m) (.dct (dput (mD ad s.rates) (.str [114, 101, 97, 100, 121]) (.ref h.length)))) := by
  refine lmove (s' := { s with ready := r }) I .ready (.inr rfl) (fun j a => a) rfl (fun j aj ne nm => ?_) rfl
  cases j <;> first | rfl | exact absurd rfl ne | exact absurd rfl nm
theorem ldev_new (I : MI false F ad s h) {r : List Rq} : MI false F (upA (upA ad .reqs h.length) .dev (h.length + 1)) { s with reqs := r }
    ((h ++ [O.lst (r.map Rq.d), .lst [.int s.value, .ref h.length]]).set (ad .m) (.dct (dput (mD ad s.rates) (.str [100, 101, 118, 105, 99, 101]) (.ref (h.length + 1))))) := by
  have R1 := Re.app I [O.lst (r.map Rq.d), .lst [.int s.value, .ref h.length]]
  let od : O := .dct (dput (mD ad s.rates) (.str [100, 101, 118, 105, 99, 101]) (.ref (h.length + 1)))
  let ob1 : Ro → O := fun j => if j = .m then od else ob false ad s j
  have R2 : Re F ad (act false s) ob1 ((h ++ [O.lst (r.map Rq.d), .lst [.int s.value, .ref h.length]]).set (ad .m) od) :=
    Re.set R1 .m trivial (fun _ => Iff.rfl) (fun j _ ne => if_neg ne) (if_pos rfl)
  have lm := I.lt (k := .m) trivial
  let ob2 : Ro → O := fun j => if j = .reqs then .lst (r.map Rq.d) else ob1 j
  have h1 : ((h ++ [O.lst (r.map Rq.d), .lst [.int s.value, .ref h.length]]).set (ad .m) od)[h.length]? = some (ob2 .reqs) := by
    rw [get_ne (by omega)]; simp [ob2]
  have R3 : Re F (upA ad .reqs h.length) (act false s) ob2 _ := Re.move R2 .reqs (fun j aj _ => aj) h1 (fun j aj => by have := I.lt aj; omega) (I.nfL (Nat.le_refl _)) fun j aj ne => if_neg ne
  have h2 : ((h ++ [O.lst (r.map Rq.d), .lst [.int s.value, .ref h.length]]).set (ad .m) od)[h.length + 1]? = some (.lst [.int s.value, .ref h.length]) := by
    rw [get_ne (by omega)]; simp
  refine Re.move R3 .dev (fun j aj _ => aj) h2 (fun j aj => ?_) (I.nfL (by omega)) fun j aj ne => ?_
  · by_cases z : j = .reqs
    · rw [z, upA_eq]; omega
    · rw [upA_ne z]; have := I.lt aj; omega
  · cases j with
    | dev => exact absurd rfl ne
    | _ => rfl
theorem lsetEvents (I : MI false F ad s h) (q : ∀ h' ad', ad' .m = ad .m → MI false F ad' { s with views := [] } h' → U () h') : Wp (setix (.ref (ad .m)) (.str [101, 118, 101, 110, 116, 115]) (.ref h.length) (h ++ [O.lst []])) U X := by
  rw [sx_dct (get_app _ (mL I)) rfl (by simp [mD])]
  exact q _ (upA ad .views h.length) rfl (lviews_new I)
theorem lsetReady (I : MI false F ad s h) {r : List Nat} (q : ∀ h' ad', ad' .m = ad .m → MI false F ad' { s with ready := r } h' → U () h') : Wp (setix (.ref (ad .m)) (.str [114, 101, 97, 100, 121]) (.ref h.length) (h ++ [O.lst (r.map fun (n : Nat) => .int n)])) U X := by
  rw [sx_dct (get_app _ (mL I)) rfl (by simp [mD])]
  exact q _ (upA ad .ready h.length) rfl (lready_new I)
theorem lsetDev (I : MI false F ad s h) {r : List Rq} (q : ∀ h' ad', ad' .m = ad .m → MI false F ad' { s with reqs := r } h' → U () h') : Wp (setix (.ref (ad .m)) (.str [100, 101, 118, 105, 99, 101]) (.ref (h.length + 1)) (h ++ [O.lst (r.map Rq.d), .lst [.int s.value, .ref h.length]])) U X := by
  rw [sx_dct (get_app _ (mL I)) rfl (by simp [mD])]
  exact q _ (upA (upA ad .reqs h.length) .dev (h.length + 1)) rfl (ldev_new I)
structure RlI (F : Nat → Option O) (ad : Ro → Nat) (s : Ms) (cpu : Nat) (pick what : D) (i : Nat) (sg : Sg) (h : Hh) : Prop where
  I : MI false F ad (s.rouse cpu i) h
  s : ∃ x y a b c d, sg = [some (.ref (ad .m)), some pick, x, some (.int cpu), some what, y, a, b, c, d]
theorem lstep_ok (k : Nat) (I : MI false F ad s h) (W : Wf cpus n s) (hn : n ≤ 8000) (hc : cpu < cpus) {what : Nm} (hw : what = [115, 116, 101, 112] ∨ what = [116, 105, 109, 101, 114] ∨ what = [100, 101, 118, 105, 99, 101]) (q : ∀ h' ad', ad' .m = ad .m → MI false F ad' (s.step cpu what) h' → Q .non h') :
    Wp (C (k + 6) ([], [95, 108, 97, 119, 95, 115, 116, 101, 112]) [.ref (ad .m), .tup [.int cpu, .str what]] h) Q X := by
  have hr := W.rl
  refine wcall P33 rfl rfl ?_
  simp [F33]
  rw [w_cons']
  simp
  refine t_tup rfl ?_
  simp
  rw [w_cons']
  simp
  refine lsetEvents I fun h1 ad1 em I1 => ?_
  rw [← em]
  rw [← em] at q
  rw [w_cons']
  simp
  rw [lTimes I1]
  refine ⟨by rw [ak_lst (show h1[ad1 .times]? = some (.lst _) from I1.at_ .times trivial)]; simp, ?_⟩
  rw [xTimes I1 (by show cpu < s.times.length; rw [W.tm]; exact hc), lRates I1]
  have hrt : (s.rates.map D.int)[cpu]? = some (.int (s.rate cpu)) := by
    unfold Ms.rate
    rw [List.getElem?_map, List.getD_eq_getElem?_getD, List.getElem?_eq_getElem (by rw [W.rt]; exact hc)]
    rfl
  show Wp (getix (.tup (s.rates.map .int)) (.int cpu) h1) _ _
  rw [x_tup, at_nat]
  refine ⟨_, hrt, ?_⟩
  simp
  refine sTimes I1 (by show cpu < s.times.length; rw [W.tm]; exact hc) fun h2 I2 => ?_
  have I2 : MI false F ad1 (s.start cpu) h2 := I2
  have W2 := W.start (cpu := cpu)
  have lw : (s.start cpu).ths.length = s.ths.length := rfl
  have q2 : ∀ h' ad', ad' .m = ad1 .m → MI false F ad' (if what = [115, 116, 101, 112] then ((s.start cpu).rouse cpu (s.start cpu).ths.length).go cpu else if what = [116, 105, 109, 101, 114] then ((s.start cpu).rouse cpu (s.start cpu).ths.length).timer cpu else ((s.start cpu).rouse cpu (s.start cpu).ths.length).answer cpu) h' → Q .non h' := q
  generalize s.start cpu = s2 at I2 W2 lw q2
  have tl := W2.tl
  rw [w_cons']
  simp
  rw [lThs I2, lenThs I2]
  refine ⟨_, rfl, by unfold inRng; simp; omega, ?_⟩
  refine wk_rng (fun i => RlI F ad1 s2 cpu (.tup [.int cpu, .str what]) (.str what) i.toNat) ⟨I2, _, _, _, _, _, _, rfl⟩ ?_ ?_ ?_
  · rintro sg h i ⟨_, x, y, a, b, c, d, rfl⟩
    simp
  · rintro i sg h4 i0 im ⟨I4, x, y, a, b, c, d, rfl⟩
    obtain ⟨i, rfl⟩ := Int.eq_ofNat_of_zero_le i0
    simp at im I4
    have hi : i < (s2.rouse cpu i).ths.length := by rw [rouse_len]; exact im
    have W4 := W2.rouse (cpu := cpu) i (by omega)
    simp
    unfold B33_0
    rw [w_cons']
    simp
    rw [lThs I4, xThs I4 hi, lCond I4 hi]
    rw [w_cons']
    simp
    rw [s_cond, q_sl]
    simp
    have e := rouse_succ (s := s2) (cpu := cpu) (i := i)
    have no : ((s2.rouse cpu i).th i).cond.due cpu ((s2.rouse cpu i).time cpu) = false → RlI F ad1 s2 cpu (.tup [.int cpu, .str what]) (.str what) (i + 1) [some (.ref (ad1 .m)), some (.tup [.int cpu, .str what]), some (.int i), some (.int cpu), some (.str what), some ((s2.rouse cpu i).th i).cond.d, a, b, c, d] h4 := by
      intro z
      rw [z] at e
      refine ⟨?_, _, _, _, _, _, _, rfl⟩
      rw [e]
      exact I4
    generalize hc4 : ((s2.rouse cpu i).th i).cond = c4 at no e
    cases c4 with
    | sleeping d u =>
      by_cases z : d = cpu
      · rw [if_pos (by simp [Cond.sl, z]), x_sleep, lTimes I4, xTimes I4 (by rw [W4.tm]; exact hc)]
        simp
        by_cases y : u ≤ (s2.rouse cpu i).time cpu
        · rw [if_pos y, w_cons']
          simp
          refine lret_ok _ I4 W4 (by omega) hc hi (by decide) fun h5 I5 => ⟨?_, _, _, _, _, _, _, rfl⟩
          rw [if_pos (by simp [Cond.due, z, y])] at e
          show MI false F ad1 (s2.rouse cpu (i + 1)) h5
          rw [e]
          exact I5
        · rw [if_neg y]
          exact no (by simp [Cond.due, y])
      · have es : (Cond.sleeping d u).sl cpu = false := by simp [Cond.sl, z]
        simp only [es, Bool.false_eq_true, if_false]
        exact no (by simp [Cond.due, z])
    | _ =>
      simp only [Cond.sl, Bool.false_eq_true, if_false]
      exact no rfl
  · rintro sg h4 hI _
    obtain ⟨I4, x, y, a, b, c, d, rfl⟩ := hI (by omega)
    simp at I4
    simp
    have W4 := (W2.rouse (cpu := cpu) s2.ths.length (Nat.le_refl _)).mono (m := n + 16) (by omega)
    generalize s2.rouse cpu s2.ths.length = s4 at I4 W4 q2
    have rl4 := W4.rl
    rw [w_cons']
    simp
    rw [lRuns I4, xRuns I4 (by omega), w_cons']
    simp
    rcases hw with hw | hw | hw
    · subst hw
      rw [if_pos rfl] at q2
      unfold Ms.go at q2
      simp
      by_cases c3 : 0 ≤ s4.run cpu
      · rw [if_pos c3] at q2
        have hrun := W4.runt hc c3
        obtain ⟨t, et⟩ := Int.eq_ofNat_of_zero_le c3
        rw [if_pos c3, w_cons']
        simp
        rw [et] at q2 hrun ⊢
        simp only [Int.toNat_natCast] at q2 hrun
        exact linstr_ok _ I4 W4 (by omega) hc hrun q2
      · rw [if_neg c3] at q2
        rw [if_neg c3, w_cons']
        simp
        rw [lReady I4, qReady I4]
        have I5 : MI false F ad1 s4 (h4 ++ [O.lst []]) := Re.app I4 _
        generalize h4 ++ [O.lst []] = h5 at I5 ⊢
        cases er : s4.ready with
        | nil =>
          rw [er] at q2
          simp
          rw [w_cons']
          simp
          rw [w_cons']
          simp
          exact q2 h5 ad1 rfl I5
        | cons t r =>
          rw [er] at q2
          have htt : t < s4.ths.length := W4.rd t (by rw [er]; exact List.mem_cons_self)
          simp
          rw [w_cons']
          simp
          have gr : h5[ad1 .ready]? = some (.lst ((t :: r).map fun (n : Nat) => .int n)) := by have := I5.at_ .ready trivial; rw [this]; show some (O.lst (s4.ready.map _)) = _; rw [er]
          rw [lReady I5, x_lst gr]
          simp
          rw [w_cons']
          simp
          rw [lReady I5, s_lst gr, show (1 : Int) = ((1 : Nat) : Int) from rfl, cutL_from]
          simp
          refine lsetReady I5 (r := r) fun h6 ad6 e6 I6 => ?_
          rw [w_cons']
          simp
          rw [← e6, lRuns I6]
          refine sRuns I6 (by show cpu < s4.runs.length; omega) fun h7 I7 => ?_
          rw [w_cons']
          simp
          rw [lThs I7, xThs I7 htt]
          refine lSetCond I7 htt (.running cpu) fun h8 I8 => ?_
          have I8 : MI false F ad6 (s4.turn0 cpu t r) h8 := I8
          have ht8 : t < (s4.turn0 cpu t r).ths.length := by rw [turn0_len]; exact htt
          rw [w_cons']
          simp
          rw [lThs I8, xThs I8 ht8, lPc I8 ht8]
          exact ltell_ok _ I8 (W4.turn0 er) (by omega) hc ht8 (args := []) fun h9 I9 => q2 h9 ad6 e6 I9
    · subst hw
      rw [if_neg (by decide), if_pos rfl] at q2
      unfold Ms.timer at q2
      simp
      rw [w_cons']
      simp
      rw [w_cons']
      simp
      rw [w_cons']
      simp
      refine ltick_ok _ I4 W4 (by omega) hc fun h5 I5 => ?_
      have W5 := W4.tick (cpu := cpu)
      rw [w_cons']
      simp
      by_cases c3 : 0 ≤ s4.run cpu
      · rw [if_pos c3] at q2
        have hrun := W4.runt hc c3
        obtain ⟨t, et⟩ := Int.eq_ofNat_of_zero_le c3
        rw [if_pos c3, w_cons']
        simp
        rw [et] at q2 hrun ⊢
        simp only [Int.toNat_natCast] at q2 hrun
        exact loff_ok _ I5 W5 (by omega) hc hrun (c := .ready) (fun e z => by cases z) fun h6 I6 => q2 h6 ad1 rfl I6
      · rw [if_neg c3] at q2
        rw [if_neg c3]
        exact q2 h5 ad1 rfl I5
    · subst hw
      rw [if_neg (by decide), if_neg (by decide)] at q2
      unfold Ms.answer at q2
      simp
      rw [w_cons']
      simp
      rw [w_cons']
      simp
      rw [w_cons']
      simp
      rw [lDev I4, lDev1 I4, qReqs I4]
      have I5 : MI false F ad1 s4 (h4 ++ [O.lst []]) := Re.app I4 _
      generalize h4 ++ [O.lst []] = h5 at I5 ⊢
      cases er : s4.reqs with
      | nil =>
        rw [er] at q2
        simp
        exact q2 h5 ad1 rfl I5
      | cons q0 r =>
        rw [er] at q2
        dsimp only at q2
        have hq := W4.rq q0 (by rw [er]; exact List.mem_cons_self)
        have gq : h5[ad1 .reqs]? = some (.lst ((q0 :: r).map Rq.d)) := by have := I5.at_ .reqs trivial; rw [this]; show some (O.lst (s4.reqs.map _)) = _; rw [er]
        simp
        rw [w_cons']
        simp
        rw [lDev I5, lDev1 I5, x_lst gq]
        refine ⟨q0.d, by simp, ?_⟩
        refine t_tup rfl ?_
        simp
        rw [w_cons']
        simp
        rw [lDev I5, lDev0 I5, w_cons']
        simp
        rw [lDev I5, lDev0 I5, lDev I5, lDev1 I5, s_lst gq, show (1 : Int) = ((1 : Nat) : Int) from rfl, cutL_from]
        simp
        refine lsetDev I5 (r := r) fun h6 ad6 e6 I6 => ?_
        rw [w_cons']
        simp
        rw [← e6]
        have fin : ∀ (PQ : Fl × Sg → Hh → Prop) (h7 : Hh), (∀ sg h', Q .non h' → PQ (.nx, sg) h') → MI false F ad6 (s4.ans0 q0 r) h7 →
            Wp (xss (C (k + 5)) prg.tb [.ex (.call ([], [95, 108, 97, 119, 95, 116, 101, 108, 108]) [.var 0, .cst (.str [100, 111, 110, 101]), .var 3, .var 7, .idx (.idx (.idx (.idx (.var 0) (.cst (.str [116, 104, 114, 101, 97, 100, 115]))) (.var 7)) (.cst (.str [99, 97, 108, 108]))) (.cst (.int 1)), .tup [.var 8]]), .ex (.call ([], [95, 108, 97, 119, 95, 114, 101, 116, 117, 114, 110, 115]) [.var 0, .var 3, .var 7, .var 6])]
              [some (.ref (ad6 .m)), some (.tup [.int cpu, .str [100, 101, 118, 105, 99, 101]]), some (.int (s4.run cpu)), some (.int cpu), some (.str [100, 101, 118, 105, 99, 101]), y, some (.int (if q0.call = 3 then 0 else s4.value)), some (.int q0.tid), some (.int q0.call), some (.int q0.num)] h7) PQ fun _ _ _ => False := by
          intro PQ h7 pq I7
          have W7 := W4.ans0 er
          have ht7 : q0.tid < (s4.ans0 q0 r).ths.length := by rw [ans0_len]; exact hq.1
          rw [w_cons']
          simp
          rw [lThs I7, xThs I7 ht7, lCall I7 ht7]
          simp
          refine ltell_ok _ I7 W7 (by omega) hc ht7 (args := [q0.call]) fun h8 I8 => ?_
          rw [w_cons']
          simp
          refine lret_ok _ I8 W7.tell (by omega) hc ht7 ?_ fun h9 I9 => pq _ _ (q2 h9 ad6 e6 I9)
          split
          · decide
          · exact W4.vl
        by_cases c3 : q0.call = 3
        · rw [if_pos c3] at fin
          rw [if_pos c3, w_cons']
          simp
          rw [lDev I6]
          refine lSetValue I6 fun h7 I7 => ?_
          rw [w_cons']
          simp
          refine fin _ h7 ?_ ?_
          · exact fun _ _ z => z
          · unfold Ms.ans0
            rw [if_pos c3]
            exact I7
        · rw [if_neg c3] at fin
          rw [if_neg c3]
          refine fin _ h6 ?_ ?_
          · exact fun _ _ z => z
          · unfold Ms.ans0
            rw [if_neg c3]
            exact I6
end
end Zl

namespace Zl
open PySem Z
/-! MO: the law's model is made. -/
theorem sx_dctA {h : Hh} {a b : O} {kv : List (D × D)} {L : List O} {k v : D} {n : Nat} {U : Unit → Hh → Prop} {X : XX} (hn : n = h.length + 2) (hk : keyD k = true) (hl : kv.length < SZ) (q : U () (h ++ (a :: b :: .dct (dput kv k v) :: L))) : Wp (setix (.ref n) k v (h ++ (a :: b :: .dct kv :: L))) U X := by
  subst hn
  have g : (h ++ (a :: b :: .dct kv :: L))[h.length + 2]? = some (.dct kv) := by
    rw [at_app (i := 2) (by rfl)]; rfl
  rw [sx_dct g hk hl]
  have e : (h ++ (a :: b :: .dct kv :: L)).set (h.length + 2) (.dct (dput kv k v)) = h ++ (a :: b :: .dct (dput kv k v) :: L) := by
    rw [List.set_append_right _ _ (by omega)]
    rw [show h.length + 2 - h.length = 2 by omega]
    rfl
  rw [e]
  exact q
def offs (i : Nat) : Nat := [2, 0, 3, 4, 5, 6, 7, 1, 8].getD i 0
theorem offs_inj : ∀ i, i < 9 → ∀ j, j < 9 → offs i = offs j → i = j := by decide
def bL (l : Nat) (i : Nat) : Nat := l + offs i
theorem bL_ne {l : Nat} (i j : Nat) (hi : i ≤ 8) (hj : j ≤ 8) (e : bL l i = bL l j) : i = j := offs_inj i (by omega) j (by omega) (by unfold bL at e; omega)
theorem bL_le {l : Nat} (i : Nat) : l ≤ bL l i := Nat.le_add_right _ _
theorem fm_const {α β : Type} {c : β} : ∀ l : List α, l.filterMap (fun _ => some c) = List.replicate l.length c
  | [] => rfl
  | x :: l => by simp [fm_const l, List.replicate_succ]
structure LoI (F : Nat → Option O) (a : Nat) (s0 : Ms) (ps : D) (rs : D) (i : Nat) (sg : Sg) (h : Hh) : Prop where
  I : ∃ ad, ad .m = a ∧ MI false F ad (s0.boots i) h
  s : ∃ x y z, sg = [some ps, some rs, some (.ref a), x, y, z]
theorem lmodel_ok (k : Nat) {F : Nat → Option O} {h0 : Hh} {ps : List (List Int)} {rates : List Int} {Q : D → Hh → Prop} {X : XX} (hp : ∀ p ∈ ps, p.length ≤ 256 ∧ ∀ b ∈ p, 0 ≤ b ∧ b < 256) (hz : ps.length ≤ 4) (hr : rates.length ≤ 100) (fo : ∀ n o, F n = some o → h0[n]? = some o)
    (q : ∀ h' ad, MI false F ad (boot (ps.map memOf) rates) h' → Q (.ref (ad .m)) h') :
    Wp (C (k + 2) ([], [95, 108, 97, 119, 95, 109, 111, 100, 101, 108]) [.tup (ps.map tI), tI rates] h0) Q X := by
  have M : MemOk (ps.map memOf) := ⟨by simpa using hz, fun m hm => by
    obtain ⟨p, h1, rfl⟩ := List.mem_map.mp hm
    refine ⟨memOf_len (hp p h1).1, fun b hb => ?_⟩
    rcases List.mem_append.mp hb with z | z
    · exact (hp p h1).2 b z
    · rw [List.eq_of_mem_replicate z]; decide⟩
  refine wcall P25 rfl rfl ?_
  simp [F25]
  rw [w_cons']
  simp
  refine mem_comp (v := 5) (show 5 < 6 by decide) (fun p h1 => (hp p h1).1) (by omega) fun h1 as hal has hasn hmem f1 => ?_
  have l1 : h0.length ≤ h1.length := f1.le
  have old1 : ∀ n, n < h0.length → h1[n]? = h0[n]? := fun n hn => f1.eq n hn (fun z => z)
  simp
  refine ⟨[(.str [109, 101, 109], .ref h1.length), (.str [114, 97, 116, 101, 115], tI rates), (.str [101, 118, 101, 110, 116, 115], .ref (h1.length + 1))], rfl, ?_⟩
  rw [w_cons']
  simp
  refine ⟨.pur (rates.map .int), rfl, ?_⟩
  refine cr_pur (fun _ => some (.int 0)) (by simp; omega) (fun x hx => by simp [wipes, X25_0, X25_1]) ?_
  rw [fm_const, List.length_map]
  simp
  refine sx_dctA rfl rfl (by simp) ?_
  rw [w_cons']
  simp
  refine ⟨.pur (rates.map .int), rfl, ?_⟩
  refine cr_pur (fun _ => some (.int (-1))) (by simp; omega) (fun x hx => by simp [wipes, X25_2]) ?_
  rw [fm_const, List.length_map]
  simp
  refine sx_dctA rfl rfl (show (4 : Nat) < 16777216 by decide) ?_
  rw [w_cons']
  simp
  refine sx_dctA rfl rfl (show (5 : Nat) < 16777216 by decide) ?_
  rw [w_cons']
  simp
  refine sx_dctA rfl rfl (show (6 : Nat) < 16777216 by decide) ?_
  rw [w_cons']
  simp
  refine sx_dctA rfl rfl (show (7 : Nat) < 16777216 by decide) ?_
  rw [w_cons']
  simp
  have Lh : Lay false (bL h1.length) as (s00 (ps.map memOf) rates) (h1 ++ [.lst (as.map .ref), .lst [], .dct (mD (ad0 (bL h1.length) as) rates), .lst ((List.replicate rates.length (0 : Int)).map .int), .lst ((List.replicate rates.length (-1 : Int)).map .int), .lst [], .lst [], .lst [], .lst [.int 0, .ref (h1.length + 7)]]) := by
    refine ⟨?_, ?_, ?_, ?_, ?_, ?_, ?_, ?_, fun z => ?_, fun i a m e1 e2 => ?_⟩
    · rw [at_app (i := 2) (by rfl)]; rfl
    · rw [at_app (i := 0) (by rfl)]; rfl
    · rw [at_app (i := 3) (by rfl)]; rfl
    · rw [at_app (i := 4) (by rfl)]; rfl
    · rw [at_app (i := 5) (by rfl)]; rfl
    · rw [at_app (i := 6) (by rfl)]; rfl
    · rw [at_app (i := 7) (by rfl)]; rfl
    · rw [at_app (i := 1) (by rfl)]; rfl
    · rw [at_app (i := 8) (by rfl)]; rfl
    · have ha := has a (List.mem_of_getElem? e1)
      have e2 : (ps.map memOf)[i]? = some m := e2
      rw [List.getElem?_map] at e2
      obtain ⟨p, ep, rfl⟩ := Option.map_eq_some_iff.mp e2
      rw [List.getElem?_append_left (by omega)]
      exact hmem i a p e1 ep
  have nfF : ∀ n, h0.length ≤ n → F n = none := fun n hn => by
    cases e : F n with
    | none => rfl
    | some o => have := lt_of (fo n o e); omega
  have I0 := mkMI (F := F) Lh (by simpa using hal) bL_ne (hasn.imp fun {x y} z => Nat.ne_of_lt z) (fun a ha i _ => by have hb := (has a ha).2; have := bL_le (l := h1.length) i; omega)
    (fun i _ => nfF _ (Nat.le_trans l1 (bL_le i))) (fun a ha => nfF _ (has a ha).1) (fun n o e => by
      have hn := lt_of (fo n o e)
      rw [List.getElem?_append_left (by omega), old1 n hn]
      exact fo n o e)
  rw [List.map_replicate, List.map_replicate] at I0
  refine ⟨by unfold inRng; simp; omega, ?_⟩
  refine wk_rng (fun i => LoI F (h1.length + 2) (s00 (ps.map memOf) rates) (.tup (ps.map tI)) (tI rates) i.toNat) ⟨⟨_, rfl, I0⟩, _, _, _, rfl⟩ ?_ ?_ ?_
  · rintro sg h i ⟨_, x, y, z, rfl⟩
    simp
  · rintro i sg h2 i0 im ⟨⟨ad, em, I2⟩, x, y, z, rfl⟩
    obtain ⟨i, rfl⟩ := Int.eq_ofNat_of_zero_le i0
    simp at im I2
    have W2 := boots_ok (rates := rates) M i (by simpa using Nat.le_of_lt im)
    simp
    unfold B25_3
    rw [w_cons']
    simp
    rw [← em]
    refine lbegin_ok _ I2 W2 (by omega) fun h3 ad3 e3 I3 => ?_
    refine ⟨⟨ad3, e3, ?_⟩, _, _, _, rfl⟩
    show MI false F ad3 ((s00 (ps.map memOf) rates).boots (i + 1)) h3
    rw [boots_succ]
    exact I3
  · rintro sg h2 hI _
    obtain ⟨⟨ad, em, I2⟩, x, y, z, rfl⟩ := hI (by omega)
    simp at I2
    simp
    rw [w_cons']
    simp
    rw [← em]
    refine q h2 ad ?_
    unfold boot
    simpa using I2
end Zl

namespace Zl
open PySem Z
/-! MT: what k61 draws. -/
theorem app_int {l : List Int} {x : Int} : l.map D.int ++ [D.int x] = (l ++ [x]).map D.int := by simp
theorem new_set {h : Hh} {a b : O} : (h ++ [a]).set h.length b = h ++ [b] := by simp
/-- in bounds -/
def InB (l : List Int) : Prop := ∀ x ∈ l, 0 ≤ x ∧ x < 997
theorem InB.app {l : List Int} {x : Int} (h : InB l) : InB (l ++ [x.fmod 997]) := by
  intro y hy
  rcases List.mem_append.mp hy with z | z
  · exact h y z
  · rw [List.mem_singleton.mp z]
    exact fm (by decide)
def DwI (h0 : Hh) (ns : List Int) (m : Int) (i : Int) (sg : Sg) (h : Hh) : Prop :=
  ∃ l : List Int, InB l ∧ h = h0 ++ [.lst (l.map D.int)] ∧ (l.length : Int) ≤ 62 * i ∧ ∃ mx c d e f, sg = [some (.rol (ns.map .int)), some (.int m), some (.ref h0.length), some (.int mx), c, d, e, f]
def Dw1 (h0 : Hh) (B : Int) (ns : List Int) (m mx : Int) (c d : Option D) (i : Int) (sg : Sg) (h : Hh) : Prop :=
  ∃ l : List Int, InB l ∧ h = h0 ++ [.lst (l.map D.int)] ∧ (l.length : Int) ≤ B + i ∧ ∃ rest f, sg = [some (.rol (ns.map .int)), some (.int m), some (.ref h0.length), some (.int mx), c, d, some (.int rest), f]
def Dw2 (h0 : Hh) (B : Int) (ns : List Int) (m : Int) (i : Int) (sg : Sg) (h : Hh) : Prop :=
  ∃ l : List Int, InB l ∧ h = h0 ++ [.lst (l.map D.int)] ∧ (l.length : Int) ≤ B + i ∧ i ≤ l.length ∧ ∃ mx c d e f, sg = [some (.rol (ns.map .int)), some (.int m), some (.ref h0.length), some (.int mx), c, d, e, f]
theorem draws_ok (k : Nat) (ns : List Int) (m : Nat) (M : Int) (hM : M = m) (hm : m ≤ 10000) (h : Hh) {Q : D → Hh → Prop} {X : XX} (hl : ns.length ≤ 63)
    (q : ∀ (l : List Int) (g : List Int), InB l → l.length = m → Q (.ref (h.length + 1)) (h ++ [.lst (g.map D.int), .lst (l.map D.int)])) : Wp (C (k + 1) ([], [95, 108, 97, 119, 95, 100, 114, 97, 119, 115]) [.rol (ns.map D.int), .int M] h) Q X := by
  subst hM
  refine wcall P21 rfl rfl ?_
  simp [F21]
  rw [w_cons']
  simp
  rw [w_cons']
  simp
  rw [w_cons']
  simp
  refine ⟨by unfold inRng; simp; omega, ?_⟩
  refine wk_rng (DwI h ns m) ⟨[], fun _ z => (by cases z), rfl, by simp, 7, none, none, none, none, rfl⟩ ?_ ?_ ?_
  · rintro sg h1 i ⟨l, _, _, _, mx, c, d, e, f, rfl⟩
    simp
  · rintro i sg h1 h0 hi ⟨l, hb, rfl, hlen, mx, c, d, e, f, rfl⟩
    simp
    unfold B21_1
    obtain ⟨z, hz⟩ : ∃ z, ns[i.toNat]? = some z := ⟨_, List.getElem?_eq_getElem (by omega)⟩
    rw [w_cons']
    simp [at_pos h0, hz]
    rw [w_cons']
    simp
    refine ⟨.inr (by decide), ?_⟩
    generalize (mx * 48271 + (if z < 0 then -z else z).fmod 1000003 + i).fmod 65537 = mx2
    rw [w_cons']
    simp
    rw [w_cons']
    have hget : (h ++ [O.lst (l.map D.int)])[h.length]? = some (.lst (l.map D.int)) := get_new
    have inner : ∀ (l : List Int) (rest : Int), InB l → (l.length : Int) ≤ 62 * i + 2 → Wp (xss (C k) prg.tb [.each (.nm 7) (.rng1 (.cst (.int 60))) B21_0] [some (.rol (ns.map .int)), some (.int m), some (.ref h.length), some (.int mx2), some (.int i), some (.int (if z < 0 then -z else z)), some (.int rest), f] (h ++ [.lst (l.map D.int)]))
        (TurnQ (DwI h ns m (i + 1)) fun p h1 => SeqQ (fun sg h => Wp (xss (C k) prg.tb [.each (.nm 4) (.rng1 (.var 1)) B21_2, .ret (.sli (.var 2) none (some (.var 1)))] sg h) (RetQ Q X) fun _ _ _ => False) (RetQ Q X) p h1) fun _ _ _ => False := by
      intro l rest hb hlen
      rw [w_cons']
      simp
      refine ⟨by unfold inRng; rfl, ?_⟩
      refine wk_rng (Dw1 h (62 * i + 2) ns m mx2 (some (.int i)) (some (.int (if z < 0 then -z else z)))) ⟨l, hb, rfl, by omega, _, _, rfl⟩ ?_ ?_ ?_
      · rintro sg h1 i ⟨l, _, _, _, rest, f, rfl⟩
        simp
      · rintro j sg h1 j0 hj ⟨l, hb, rfl, hlen, rest, f, rfl⟩
        have hget : (h ++ [O.lst (l.map D.int)])[h.length]? = some (.lst (l.map D.int)) := get_new
        simp
        unfold B21_0
        rw [w_cons']
        simp
        by_cases hr : 0 < rest
        · simp only [hr, if_true]
          rw [w_cons']
          simp
          rw [r_app hget]
          refine ⟨_, rfl, ?_⟩
          rw [m_append hget (by simp; omega), new_set, app_int, w_cons']
          simp
          exact ⟨l ++ [rest.fmod 997], hb.app, by simp, by simp; omega, _, _, rfl⟩
        · simp only [hr, if_false]
          exact ⟨l, hb, rfl, by omega, _, _, rfl⟩
      · rintro sg h1 hI _
        obtain ⟨l, hb, rfl, hlen, rest, f, rfl⟩ := hI (by omega)
        simp
        exact ⟨l, hb, rfl, by omega, _, _, _, _, _, rfl⟩
    simp
    by_cases hc : 1000000000000000000 ≤ if z < 0 then -z else z
    · simp only [hc, if_true]
      rw [w_cons']
      simp
      exact inner l _ hb (by omega)
    · simp only [hc, if_false]
      rw [w_cons']
      simp
      rw [r_app hget]
      refine ⟨_, rfl, ?_⟩
      rw [m_append hget (by simp; omega), new_set, app_int, w_cons']
      have hb1 : InB (l ++ [(if z < 0 then -z else z).fmod 997]) := hb.app
      have hlen1 : ((l ++ [(if z < 0 then -z else z).fmod 997]).length : Int) ≤ 62 * i + 1 := by simp; omega
      generalize l ++ [(if z < 0 then -z else z).fmod 997] = l1 at hb1 hlen1
      have hget1 : (h ++ [O.lst (l1.map D.int)])[h.length]? = some (.lst (l1.map D.int)) := get_new
      simp
      rw [r_app hget1]
      refine ⟨_, rfl, .inr (by decide), ?_⟩
      rw [m_append hget1 (by simp; omega), new_set, app_int]
      exact inner _ _ hb1.app (by simp; omega)
  · intro sg h1 hI hN
    have : ∃ i, i ≤ 63 ∧ DwI h ns m i sg h1 := by
      by_cases z : 0 ≤ (ns.length : Int)
      · exact ⟨_, by omega, hI z⟩
      · exact ⟨_, by omega, hN (by omega)⟩
    obtain ⟨i, hi, l, hb, rfl, hlen, mx, c, d, e, f, rfl⟩ := this
    simp
    rw [w_cons']
    simp
    refine ⟨by unfold inRng; simp; omega, ?_⟩
    refine wk_rng (Dw2 h 3906 ns m) ⟨l, hb, rfl, by omega, by omega, _, _, _, _, _, rfl⟩ ?_ ?_ ?_
    · rintro sg h1 i ⟨l, _, _, _, _, mx, c, d, e, f, rfl⟩
      simp
    · rintro j sg h1 j0 hj ⟨l, hb, rfl, hlen, hj2, mx, c, d, e, f, rfl⟩
      have hget : (h ++ [O.lst (l.map D.int)])[h.length]? = some (.lst (l.map D.int)) := get_new
      simp
      unfold B21_2
      rw [w_cons']
      simp
      refine ⟨.inr (by decide), ?_⟩
      rw [w_cons']
      simp
      rw [r_app hget]
      refine ⟨_, rfl, ?_⟩
      rw [m_append hget (by simp; omega), new_set, app_int]
      simp
      exact ⟨l ++ [((mx * 16807 + j + 1).fmod 65537).fmod 997], hb.app, by simp, by simp; omega, by simp; omega, _, _, _, _, _, rfl⟩
    · intro sg h1 hI hN
      obtain ⟨l, hb, rfl, hlen, hj2, mx, c, d, e, f, rfl⟩ := hI (by omega)
      have hget : (h ++ [O.lst (l.map D.int)])[h.length]? = some (.lst (l.map D.int)) := get_new
      simp
      rw [w_cons']
      simp
      rw [s_lst hget, cutL_to, ← List.map_take]
      have := q (l.take m) l (fun x hx => hb x (List.mem_of_mem_take hx)) (by simp; omega)
      simpa using this
/-! ### the reader -/
def rdO (nr : Nat) (a : Int) : O := .dct [(.str [100, 114, 97, 119, 115], .ref nr), (.str [97, 116], .int a)]
structure RdN (p r : Nat) (h : Hh) : Prop where
  ne : p ≠ r
  ex : ∃ (a : Int) (l : List Int), 0 ≤ a ∧ h[p]? = some (rdO r a) ∧ h[r]? = some (.lst (l.map D.int))
theorem RdN.mono {p r : Nat} {h h' : Hh} {S : Nat → Prop} (R : RdN p r h) (f : Fr S h h') (h1 : ¬ S p) (h2 : ¬ S r) : RdN p r h' := by
  obtain ⟨ne, a, l, h0, e1, e2⟩ := R
  exact ⟨ne, a, l, h0, f.get e1 h1, f.get e2 h2⟩
abbrev At (p : Nat) : Nat → Prop := fun n => n = p
/-- from h to h' only the reader went on -/
structure Go (p r : Nat) (h h' : Hh) : Prop where
  rd : RdN p r h'
  fr : Fr (At p) h h'
theorem Go.trans {p r : Nat} {h h1 h2 : Hh} (a : Go p r h h1) (b : Go p r h1 h2) : Go p r h h2 := ⟨b.rd, a.fr.trans b.fr⟩
theorem Go.app {p r : Nat} {h h1 : Hh} (a : Go p r h h1) (l : List O) : Go p r h (h1 ++ l) := ⟨a.rd.mono (Fr.app (S := F1_) l) (fun z => z) (fun z => z), a.fr.trans (Fr.app l)⟩
theorem Go.rf {p r : Nat} {h : Hh} (a : RdN p r h) : Go p r h h := ⟨a, Fr.refl⟩
theorem RdN.lt {p r : Nat} {h : Hh} (R : RdN p r h) : p < h.length := by
  obtain ⟨_, a, l, _, e1, _⟩ := R
  exact lt_of e1
theorem Go.get {p r n : Nat} {h h1 : Hh} {o : O} (a : Go p r h h1) (e : h[n]? = some o) (ne : n ≠ p) : h1[n]? = some o := a.fr.get e ne
theorem dget_dr (nr : Nat) (a : Int) : dget [(.str [100, 114, 97, 119, 115], .ref nr), (.str [97, 116], .int a)] (.str [100, 114, 97, 119, 115]) = some (.ref nr) := rfl
theorem dget_at (nr : Nat) (a : Int) : dget [(.str [100, 114, 97, 119, 115], .ref nr), (.str [97, 116], .int a)] (.str [97, 116]) = some (.int a) := rfl
theorem dput_at (nr : Nat) (a b : Int) : dput [(.str [100, 114, 97, 119, 115], .ref nr), (.str [97, 116], .int a)] (.str [97, 116]) (.int b) = [(.str [100, 114, 97, 119, 115], .ref nr), (.str [97, 116], .int b)] := rfl
theorem next_ok (k : Nat) {p r : Nat} {h : Hh} {m : Int} (hm : 0 < m) {Q : D → Hh → Prop} {X : XX} (R : RdN p r h) (q : ∀ h' v, 0 ≤ v → v < m → Go p r h h' → Q (.int v) h') : Wp (C (k + 1) ([], [95, 108, 97, 119, 95, 110, 101, 120, 116]) [.ref p, .int m] h) Q X := by
  obtain ⟨ne, a, l, h0, e1, e2⟩ := R
  unfold rdO at e1
  refine wcall P22 rfl rfl ?_
  simp [F22]
  rw [w_cons']
  simp
  refine ⟨ak_dct e1, ?_⟩
  rw [x_dct e1 rfl]
  refine ⟨_, dget_at r a, ?_⟩
  simp
  rw [sx_dct e1 rfl (by simp), dput_at]
  have g1 := get_set (o := .dct [(.str [100, 114, 97, 119, 115], .ref r), (.str [97, 116], .int (a + 1))]) e1
  have g2 : (h.set p (.dct [(.str [100, 114, 97, 119, 115], .ref r), (.str [97, 116], .int (a + 1))]))[r]? = some (.lst (l.map D.int)) := by rw [get_ne ne]; exact e2
  have fr : Fr (At p) h (h.set p (.dct [(.str [100, 114, 97, 119, 115], .ref r), (.str [97, 116], .int (a + 1))])) := Fr.set rfl
  generalize h.set p (.dct [(.str [100, 114, 97, 119, 115], .ref r), (.str [97, 116], .int (a + 1))]) = h1 at g1 g2 fr ⊢
  have G : Go p r h h1 := ⟨⟨ne, a + 1, l, by omega, g1, g2⟩, fr⟩
  rw [w_cons']
  simp
  rw [x_dct g1 rfl]
  refine ⟨_, dget_at r _, ?_⟩
  rw [x_dct g1 rfl]
  refine ⟨_, dget_dr r _, ?_⟩
  rw [b_lenl g2]
  simp
  by_cases c : (l.length : Int) < a + 1
  · rw [if_pos c, w_cons']
    simp
    exact q h1 0 (Int.le_refl _) hm G
  · rw [if_neg c, w_cons']
    simp
    rw [x_dct g1 rfl]
    refine ⟨_, dget_dr r _, ?_⟩
    rw [x_dct g1 rfl]
    refine ⟨_, dget_at r _, ?_⟩
    simp
    obtain ⟨z, ez⟩ : ∃ z, l[a.toNat]? = some z := ⟨_, List.getElem?_eq_getElem (by omega)⟩
    rw [x_lst g2, at_pos (by omega)]
    refine ⟨.int z, by simpa using ez, ?_⟩
    obtain ⟨f1, f2⟩ := fm (i := z) hm
    simp
    exact ⟨by omega, q h1 _ f1 f2 G⟩
end Zl

namespace Zl
open PySem Z
/-! MU: a drawn program, a drawn pick. -/
def By (l : List Int) : Prop := ∀ b ∈ l, 0 ≤ b ∧ b < 256
theorem By.app {l m : List Int} (a : By l) (b : By m) : By (l ++ m) := fun x hx => by
  rcases List.mem_append.mp hx with z | z
  · exact a x z
  · exact b x z
theorem By.cons {x : Int} {l : List Int} (h0 : 0 ≤ x) (h1 : x < 256) (b : By l) : By (x :: l) := fun y hy => by
  rcases List.mem_cons.mp hy with z | z
  · rw [z]; exact ⟨h0, h1⟩
  · exact b y z
theorem By.nil : By [] := fun _ z => by cases z
theorem pick_ok (k : Nat) {p r : Nat} {h : Hh} {cpus : Nat} {Q : D → Hh → Prop} {X : XX} (hc : 0 < cpus) (R : RdN p r h) (q : ∀ h' (x : Pk), x.1 < cpus → (x.2 = [115, 116, 101, 112] ∨ x.2 = [116, 105, 109, 101, 114] ∨ x.2 = [100, 101, 118, 105, 99, 101]) → Go p r h h' → Q x.d h') : Wp (C (k + 2) ([], [95, 108, 97, 119, 95, 112, 105, 99, 107]) [.ref p, .int cpus] h) Q X := by
  refine wcall P24 rfl rfl ?_
  simp [F24]
  rw [w_cons']
  simp
  refine next_ok k (by omega) R fun h1 v v0 v1 G => ?_
  refine next_ok k (by decide) (G.app _).rd fun h2 u u0 u1 G2 => ?_
  have hg := G2.get get_new (by have := G.rd.lt; omega)
  rw [x_lst hg, at_pos u0]
  have GG := (G.app _).trans G2
  obtain ⟨c, rfl⟩ := Int.eq_ofNat_of_zero_le v0
  have fin : ∀ w : Nm, (w = [115, 116, 101, 112] ∨ w = [116, 105, 109, 101, 114] ∨ w = [100, 101, 118, 105, 99, 101]) → Q (.tup [.int c, .str w]) h2 := fun w hw => q h2 (c, w) (by simp; omega) hw GG
  obtain ⟨n, rfl⟩ := Int.eq_ofNat_of_zero_le u0
  have hn : n < 8 := by omega
  match n, hn with
  | 0, _ | 1, _ | 2, _ | 3, _ | 4, _ | 5, _ => exact ⟨_, rfl, fin _ (.inl rfl)⟩
  | 6, _ => exact ⟨_, rfl, fin _ (.inr (.inl rfl))⟩
  | 7, _ => exact ⟨_, rfl, fin _ (.inr (.inr rfl))⟩
/-! the rows of a program -/
structure Rw_ (p r : Nat) (h0 : Hh) (a : Nat) (l : List Int) (h : Hh) : Prop where
  G : Go p r h0 h
  hp : p < h0.length
  ha : h0.length ≤ a
  ea : h[a]? = some (.lst (l.map D.int))
theorem Rw_.go {p r a : Nat} {h0 h h' : Hh} {l : List Int} (R : Rw_ p r h0 a l h) (G : Go p r h h') : Rw_ p r h0 a l h' := ⟨R.G.trans G, R.hp, R.ha, G.get R.ea (by have := R.hp; have := R.ha; omega)⟩
theorem Rw_.app {p r a : Nat} {h0 h : Hh} {l : List Int} (R : Rw_ p r h0 a l h) (L : List O) : Rw_ p r h0 a l (h ++ L) := ⟨R.G.app L, R.hp, R.ha, get_app _ R.ea⟩
theorem Rw_.add {p r a : Nat} {h0 h : Hh} {l : List Int} (R : Rw_ p r h0 a l h) (es : List D) (L : List Int) : Rw_ p r h0 (h.length + 1) L (h ++ [.lst es, .lst (L.map .int)]) := ⟨R.G.app _, R.hp, by have := R.G.fr.le; omega, by
  rw [List.getElem?_append_right (by omega), show h.length + 1 - h.length = 1 by omega]; rfl⟩
def RpI (p r : Nat) (h0 : Hh) (i : Int) (sg : Sg) (h : Hh) : Prop := ∃ (l : List Int) (a : Nat), Rw_ p r h0 a l h ∧ By l ∧ (i ≤ l.length ∧ (l.length : Int) ≤ 3 * i) ∧ ∃ y z, sg = [some (.ref p), some (.ref a), y, z]
theorem Rw_.fin {p r a : Nat} {h0 h : Hh} {l : List Int} (R : Rw_ p r h0 a l h) (B : By l) {i : Int} (hl : i ≤ l.length ∧ (l.length : Int) ≤ 3 * i) (i1 : i < 40) {N : Nat} (hN : 10000 ≤ N) {y z : Option D} (es : List Int) (Be : By es) (he : 1 ≤ es.length ∧ es.length ≤ 3) :
    ∃ xs, (h ++ [O.lst (es.map D.int)])[a]? = some (O.lst xs) ∧ xs.length ≤ N ∧ RpI p r h0 (i + 1) [some (.ref p), some (.ref (h.length + 1)), y, z] (h ++ [O.lst (es.map D.int), O.lst (xs ++ es.map D.int)]) := by
  refine ⟨l.map .int, get_app _ R.ea, by simp; omega, l ++ es, _, ?_, B.app Be, by simp; omega, _, _, rfl⟩
  have := R.add (es.map .int) (l ++ es)
  simpa using this
theorem next_pick (k : Nat) {p r a m : Nat} {h0 h : Hh} {l : List Int} {V : D → Hh → Prop} {X Y : XX} (R : Rw_ p r h0 a l h) (ws : List Int) (hm : ws.length = m) (m0 : 0 < m) (q : ∀ h' d, d ∈ ws → Rw_ p r h0 a l h' → V (.int d) h') :
    Wp (C (k + 1) ([], [95, 108, 97, 119, 95, 110, 101, 120, 116]) [.ref p, .int m] (h ++ [.lst (ws.map .int)])) (fun y h1 => Wp (getix (.ref h.length) y h1) V X) Y := by
  refine next_ok k (by omega) (R.app _).G.rd fun h1 v v0 v1 G => ?_
  have hg := G.get (get_new (h := h) (o := .lst (ws.map .int))) (by have := R.G.fr.le; have := R.hp; omega)
  replace R := (R.app _).go G
  rw [x_lst hg, at_pos v0]
  obtain ⟨d, e⟩ : ∃ d, ws[v.toNat]? = some d := ⟨_, List.getElem?_eq_getElem (by omega)⟩
  exact ⟨.int d, by simp [e], q h1 d (List.mem_of_getElem? e) R⟩
theorem By.one {x : Int} (h0 : 0 ≤ x) (h1 : x < 256) : By [x] := By.nil.cons h0 h1
theorem By.two {x y : Int} (h0 : 0 ≤ x) (h1 : x < 256) (k0 : 0 ≤ y) (k1 : y < 256) : By [x, y] := (By.one k0 k1).cons h0 h1
theorem By.three {x y z : Int} (h0 : 0 ≤ x) (h1 : x < 256) (k0 : 0 ≤ y) (k1 : y < 256) (l0 : 0 ≤ z) (l1 : z < 256) : By [x, y, z] := (By.two k0 k1 l0 l1).cons h0 h1
theorem prog_ok (k : Nat) {p r : Nat} {h : Hh} {Q : D → Hh → Prop} {X : XX} (R : RdN p r h) (q : ∀ h' (l : List Int), By l → 0 < l.length → l.length ≤ 256 → Go p r h h' → Q (tI l) h') : Wp (C (k + 2) ([], [95, 108, 97, 119, 95, 112, 114, 111, 103, 114, 97, 109]) [.ref p] h) Q X := by
  refine wcall P23 rfl rfl ?_
  simp [F23]
  rw [w_cons']
  simp
  rw [w_cons']
  simp
  refine next_ok k (by decide) (R.mono (Fr.app (S := F1_) _) (fun z => z) (fun z => z)) fun h1 n n0 n1 G => ?_
  simp
  refine ⟨by unfold inRng; simp; omega, ?_⟩
  have R0 : Rw_ p r h h.length [] h1 := (⟨⟨R.mono (Fr.app (S := F1_) _) (fun z => z) (fun z => z), Fr.app _⟩, R.lt, Nat.le_refl _, get_new⟩ : Rw_ p r h h.length [] (h ++ [.lst []])).go G
  clear G
  refine wk_rng (RpI p r h) ⟨[], h.length, R0, By.nil, by simp, _, _, rfl⟩ ?_ ?_ ?_
  · rintro sg h2 i ⟨l, a, _, _, _, y, z, rfl⟩
    simp
  · rintro i sg h2 i0 i1 ⟨l, a, R2, B, hl, y, z, rfl⟩
    simp
    unfold B23_0
    rw [w_cons']
    simp
    refine next_ok k (by decide) R2.G.rd fun h3 t t0 t1 G => ?_
    replace R2 := R2.go G
    clear G
    rw [w_cons']
    simp
    by_cases c1 : t < 5
    · simp only [c1, if_true]
      rw [w_cons']
      simp
      refine next_ok k (by decide) R2.G.rd fun hu u u0 u1 G => ?_
      replace R2 := R2.go G
      clear G
      refine next_ok k (by decide) R2.G.rd fun hv1 v1 v10 v11 G => ?_
      replace R2 := R2.go G
      clear G
      refine next_ok k (by decide) R2.G.rd fun hv2 v2 v20 v21 G => ?_
      replace R2 := R2.go G
      clear G
      refine next_ok k (by decide) R2.G.rd fun hv3 v3 v30 v31 G => ?_
      replace R2 := R2.go G
      clear G
      refine next_pick k R2 [v1, v2, v3] rfl (by decide) fun h4 d hd R2 => ?_
      refine R2.fin B hl (by omega) (N := 16777213) (by decide) [1, u, d] (By.three (by decide) (by decide) u0 (by omega) ?_ ?_) (by simp)
      · simp at hd; omega
      · simp at hd; omega
    simp only [c1, if_false]
    rw [w_cons']
    simp
    by_cases c2 : t < 7
    · simp only [c2, if_true]
      rw [w_cons']
      simp
      refine next_ok k (by decide) R2.G.rd fun hu u u0 u1 G => ?_
      replace R2 := R2.go G
      clear G
      refine next_ok k (by decide) R2.G.rd fun hv v v0 v1 G => ?_
      replace R2 := R2.go G
      clear G
      exact R2.fin B hl (by omega) (by decide) [2 + u, v] (By.two (by omega) (by omega) v0 v1) (by simp)
    simp only [c2, if_false]
    rw [w_cons']
    simp
    by_cases c3 : t < 10
    · simp only [c3, if_true]
      rw [w_cons']
      simp
      refine next_ok k (by decide) R2.G.rd fun hu u u0 u1 G => ?_
      replace R2 := R2.go G
      clear G
      refine next_ok k (by decide) R2.G.rd fun hv v v0 v1 G => ?_
      replace R2 := R2.go G
      clear G
      exact R2.fin B hl (by omega) (by decide) [5 + u, v] (By.two (by omega) (by omega) v0 v1) (by simp)
    simp only [c3, if_false]
    rw [w_cons']
    simp
    by_cases c4 : t = 10
    · simp only [c4, if_true]
      rw [w_cons']
      simp
      refine next_pick k R2 [7, 11] rfl (by decide) fun h4 d hd R2 => ?_
      refine next_ok k (by decide) R2.G.rd fun h5 u u0 u1 G => ?_
      replace R2 := R2.go G
      refine R2.fin B hl (by omega) (N := 16777214) (by decide) [d, u] (By.two ?_ ?_ u0 (by omega)) (by simp)
      · simp at hd; omega
      · simp at hd; omega
    simp only [c4, if_false]
    rw [w_cons']
    simp
    by_cases c5 : t = 11
    · simp only [c5, if_true]
      rw [w_cons']
      simp
      refine next_ok k (by decide) R2.G.rd fun hu u u0 u1 G => ?_
      replace R2 := R2.go G
      clear G
      refine next_ok k (by decide) R2.G.rd fun hv v v0 v1 G => ?_
      replace R2 := R2.go G
      clear G
      refine next_ok k (by decide) R2.G.rd fun hx x x0 x1 G => ?_
      replace R2 := R2.go G
      clear G
      exact R2.fin B hl (by omega) (by decide) [8 + u, v, x] (By.three (by omega) (by omega) v0 v1 x0 (by omega)) (by simp)
    simp only [c5, if_false]
    rw [w_cons']
    simp
    by_cases c6 : t < 15
    · simp only [c6, if_true]
      rw [w_cons']
      simp
      refine next_ok k (by decide) R2.G.rd fun hu u u0 u1 G => ?_
      replace R2 := R2.go G
      clear G
      exact R2.fin B hl (by omega) (by decide) [10, u] (By.two (by omega) (by omega) u0 (by omega)) (by simp)
    simp only [c6, if_false]
    rw [w_cons']
    simp
    refine next_ok k (by decide) R2.G.rd fun h4 u u0 u1 G => ?_
    replace R2 := R2.go G
    refine next_pick k R2 [12, 0, u] rfl (by decide) fun h4 d hd R2 => ?_
    refine R2.fin B hl (by omega) (N := 16777215) (by decide) [d] (By.one ?_ ?_) (by simp)
    · simp at hd; omega
    · simp at hd; omega
  · intro sg h2 hI hN
    obtain ⟨l, a, R2, B, hl, y, z, rfl⟩ := hI (by omega)
    simp
    rw [w_cons']
    simp
    refine next_ok k (by decide) R2.G.rd fun h3 t t0 t1 G => ?_
    replace R2 := R2.go G
    clear G
    simp
    have fin : ∀ (h4 : Hh) (a4 : Nat) (l4 : List Int), Rw_ p r h a4 l4 h4 → By l4 → 0 < l4.length → l4.length ≤ 256 → Wp (xss (C (k + 1)) prg.tb [S.ret (E.blt Bf.tuple [E.var 1])] [some (D.ref p), some (D.ref a4), y, z] h4) (RetQ Q X) fun _ _ _ => False := by
      intro h4 a4 l4 R4 B3 len0 len
      rw [w_cons']
      simp
      exact ⟨_, sq_lst R4.ea, q _ l4 B3 len0 len R4.G⟩
    by_cases c : t = 0
    · simp only [c, if_true]
      rw [w_cons']
      simp
      refine next_ok k (by decide) R2.G.rd fun h4 u u0 u1 G => ?_
      replace R2 := R2.go G
      obtain ⟨xs, e1, e2, l5, a5, R5, B4, hl5, y5, z5, e5⟩ := R2.fin B hl (by omega) (N := 16777214) (by decide) (y := y) (z := z) [7, u] (By.two (by decide) (by decide) u0 (by omega)) (by simp)
      refine ⟨xs, e1, e2, ?_⟩
      cases e5
      exact fin _ _ l5 R5 B4 (by omega) (by omega)
    · simp only [c, if_false]
      exact fin _ _ l R2 B (by omega) (by omega)
end Zl

namespace Zl
open PySem Z
/-! NV: the machine's state. -/
def thD (t : Th) : D := .tup [.int t.pid, .int t.pc, tI t.regs, t.cond.d]
def mmD (s : Ms) (i : Nat) : D := tI (s.mems.getD i [])
def pzD (s : Ms) (i : Nat) : D := .tup [.int (s.time i), .int (s.run i)]
def trD (s : Ms) (i : Nat) : D := thD (s.th i)
def stD (cpus : Nat) (s : Ms) : D := .tup [.tup ((List.range s.mems.length).map (mmD s)), .tup ((List.range s.ths.length).map (trD s)), .tup (s.ready.map fun (n : Nat) => .int n), .tup ((List.range cpus).map (pzD s)), .tup [.int s.value, .tup (s.reqs.map Rq.d)]]
theorem Cond.ok (c : Cond) (n : Nat) : okH (n + 1) c.d = true := by cases c <;> simp [Cond.d, okH]
theorem tI_ok (l : List Int) (n : Nat) : okH (n + 1) (tI l) = true := by simp [tI, okH]
theorem stD_ok (cpus : Nat) (s : Ms) : okH 64 (stD cpus s) = true := by
  refine okH_le (n := 4) ?_ (by decide)
  unfold stD okH
  simp only [List.all_cons, List.all_nil, Bool.and_true, Bool.and_eq_true]
  refine ⟨?_, ?_, ?_, ?_, ?_⟩
  · simp [okH, tI, mmD]
  · simp [okH, tI, trD, thD, Cond.ok]
  · simp [okH]
  · simp [okH, pzD]
  · simp [okH, Rq.d]
structure StI (h0 : Hh) (f : Nat → D) (i : Nat) (acc : List D) (h : Hh) : Prop where
  h : h = h0
  a : acc = (List.range i).map f
theorem StI.next {h0 h : Hh} {f : Nat → D} {i : Nat} {acc : List D} (I : StI h0 f i acc h) {d : D} (e : d = f i) : StI h0 f (i + 1) (acc ++ [d]) h := ⟨I.h, by rw [List.range_succ, List.map_append, I.a, e]; rfl⟩
theorem rng_get {n : Int} {i : Nat} {x : D} (e : (rngL 0 n)[i]? = some x) : x = .int i ∧ (i : Int) < n := by
  unfold rngL at e
  rw [List.getElem?_map] at e
  obtain ⟨y, e1, rfl⟩ := Option.map_eq_some_iff.mp e
  have hl := (List.getElem?_eq_some_iff.mp e1).1
  rw [List.length_range] at hl
  rw [List.getElem?_range hl] at e1
  cases e1
  exact ⟨by simp, by omega⟩
section
variable {F : Nat → Option O} {ad : Ro → Nat} {s : Ms} {h : Hh} {Q : D → Hh → Prop} {X : XX} {cpus n : Nat}
theorem zip_eq (W : Wf cpus n s) : zipD (s.times.map D.int) (s.runs.map D.int) = (List.range cpus).map (pzD s) := by
  apply List.ext_getElem
  · simp [zipD, W.tm, W.rl]
  · intro i h1 h2
    have h2 : i < cpus := by simpa using h2
    have a : s.times[i]? = some (s.times[i]'(by rw [W.tm]; exact h2)) := List.getElem?_eq_getElem _
    have b : s.runs[i]? = some (s.runs[i]'(by rw [W.rl]; exact h2)) := List.getElem?_eq_getElem _
    simp [zipD, pzD, Ms.time, Ms.run, a, b]
theorem pstate_ok (k : Nat) (I : MI true F ad s h) (W : Wf cpus n s) (hn : n ≤ 8000) (hc : cpus ≤ 100) (q : ∀ h', Fr F1_ h h' → Q (stD cpus s) h') : Wp (C (k + 2) ([77, 97, 99, 104, 105, 110, 101], [115, 116, 97, 116, 101]) [.ref (ad .m)] h) Q X := by
  have ml := W.ml
  have tl := W.tl
  refine wcall P2 rfl rfl ?_
  simp [F2]
  rw [w_cons']
  simp
  rw [pMems I, b_lenl (show h[ad .mems]? = some (.lst _) from I.at_ .mems trivial)]
  simp
  refine ⟨by unfold inRng; simp [refs]; omega, ?_⟩
  refine cr_pur_I (StI h (mmD s)) ⟨rfl, rfl⟩ (by simp [rngL, refs]; omega) (fun i x acc h1 ex J => ?_) fun acc h1 J => ?_
  · obtain ⟨rfl, hi⟩ := rng_get ex
    obtain rfl := J.h
    have hi : i < s.mems.length := by simpa [refs] using hi
    simp [X2_0, wipes]
    rw [rvM I rfl rfl]
    refine ⟨_, rfl, ?_⟩
    simp
    refine pmemory_ok k I hi ⟨_, tupMem I hi, J.next rfl⟩
  have e1 : acc = (List.range s.mems.length).map (mmD s) := by rw [J.a]; simp [rngL, refs]
  obtain rfl := J.h
  subst e1
  refine ⟨_, sq_lst get_new, ?_⟩
  have I1 : MI true F ad s (h1 ++ [O.lst ((List.range s.mems.length).map (mmD s))]) := Re.app I _
  have f1 : Fr F1_ h1 (h1 ++ [O.lst ((List.range s.mems.length).map (mmD s))]) := Fr.app _
  generalize h1 ++ [O.lst ((List.range s.mems.length).map (mmD s))] = h2 at I1 f1 ⊢
  rw [w_cons']
  simp
  rw [pThs I1]
  have gt : h2[ad .ths]? = some (.lst (refs ad .th s.ths.length)) := I1.at_ .ths trivial
  refine ⟨_, sqo_lst gt, ?_⟩
  refine cr_lst_I (StI h2 (trD s)) (fun i acc h3 J => by rw [J.h]; exact gt) ⟨rfl, rfl⟩ (by simp [refs]; omega) (fun i x acc h3 ex J => ?_) fun acc h3 J => ?_
  · unfold refs at ex
    rw [List.getElem?_map] at ex
    obtain ⟨y, e1, rfl⟩ := Option.map_eq_some_iff.mp ex
    have hl := (List.getElem?_eq_some_iff.mp e1).1
    rw [List.length_range] at hl
    rw [List.getElem?_range hl] at e1
    cases e1
    obtain rfl := J.h
    simp [X2_1, wipes]
    rw [pPid I1 hl, pPc I1 hl, pRegs I1 hl]
    refine ⟨_, tupRg I1 hl, ?_⟩
    rw [pCond I1 hl]
    exact J.next rfl
  have e1 : acc = (List.range s.ths.length).map (trD s) := by rw [J.a]; simp [refs]
  obtain rfl := J.h
  subst e1
  refine ⟨_, sq_lst get_new, ?_⟩
  have I2 : MI true F ad s (h3 ++ [O.lst ((List.range s.ths.length).map (trD s))]) := Re.app I1 _
  have f2 := f1.trans (Fr.app (S := F1_) [O.lst ((List.range s.ths.length).map (trD s))])
  generalize h3 ++ [O.lst ((List.range s.ths.length).map (trD s))] = h4 at I2 f2 ⊢
  rw [w_cons']
  simp
  rw [pTimes I2, pRuns I2, b_tzipop (I2.at_ .times trivial) (I2.at_ .runs trivial) (by simp [W.tm, W.rl])]
  rw [w_cons']
  simp
  rw [pReady I2]
  refine ⟨_, sq_lst (I2.at_ .ready trivial), ?_⟩
  rw [pValue I2, pReqs I2]
  refine ⟨_, sq_lst (I2.at_ .reqs trivial), ?_⟩
  rw [zip_eq W]
  exact q _ f2
theorem lstate_ok (k : Nat) (I : MI false F ad s h) (W : Wf cpus n s) (hn : n ≤ 8000) (hc : cpus ≤ 100) (q : ∀ h', Fr F1_ h h' → Q (stD cpus s) h') : Wp (C (k + 1) ([], [95, 108, 97, 119, 95, 115, 116, 97, 116, 101]) [.ref (ad .m)] h) Q X := by
  have ml := W.ml
  have tl := W.tl
  refine wcall P34 rfl rfl ?_
  simp [F34]
  rw [w_cons']
  simp
  rw [lThs I]
  have gt : h[ad .ths]? = some (.lst (refs ad .th s.ths.length)) := I.at_ .ths trivial
  refine ⟨_, sqo_lst gt, ?_⟩
  refine cr_lst_I (StI h (trD s)) (fun i acc h3 J => by rw [J.h]; exact gt) ⟨rfl, rfl⟩ (by simp [refs]; omega) (fun i x acc h3 ex J => ?_) fun acc h3 J => ?_
  · unfold refs at ex
    rw [List.getElem?_map] at ex
    obtain ⟨y, e1, rfl⟩ := Option.map_eq_some_iff.mp ex
    have hl := (List.getElem?_eq_some_iff.mp e1).1
    rw [List.length_range] at hl
    rw [List.getElem?_range hl] at e1
    cases e1
    obtain rfl := J.h
    simp [X34_0, wipes]
    rw [lPid I hl, lPc I hl, lRegs I hl]
    refine ⟨_, tupRg I hl, ?_⟩
    rw [lCond I hl]
    exact J.next rfl
  have e1 : acc = (List.range s.ths.length).map (trD s) := by rw [J.a]; simp [refs]
  obtain rfl := J.h
  subst e1
  refine ⟨_, sq_lst get_new, ?_⟩
  have I2 : MI false F ad s (h3 ++ [O.lst ((List.range s.ths.length).map (trD s))]) := Re.app I _
  have f2 : Fr F1_ h3 (h3 ++ [O.lst ((List.range s.ths.length).map (trD s))]) := Fr.app _
  generalize h3 ++ [O.lst ((List.range s.ths.length).map (trD s))] = h4 at I2 f2 ⊢
  rw [w_cons']
  simp
  rw [lRates I2]
  unfold tI
  simp [W.rt]
  refine ⟨by unfold inRng; simp; omega, ?_⟩
  refine cr_pur_I (StI h4 (pzD s)) ⟨rfl, rfl⟩ (by simp [rngL]; omega) (fun i x acc h1 ex J => ?_) fun acc h1 J => ?_
  · obtain ⟨rfl, hi⟩ := rng_get ex
    obtain rfl := J.h
    have hi : i < cpus := by omega
    simp [X34_1, wipes]
    rw [lTimes I2, xTimes I2 (by rw [W.tm]; exact hi), lRuns I2, xRuns I2 (by rw [W.rl]; exact hi)]
    exact J.next rfl
  have e1 : acc = (List.range cpus).map (pzD s) := by rw [J.a]; simp [rngL]
  obtain rfl := J.h
  subst e1
  refine ⟨_, sq_lst get_new, ?_⟩
  have I3 : MI false F ad s (h1 ++ [O.lst ((List.range cpus).map (pzD s))]) := Re.app I2 _
  have f3 := f2.trans (Fr.app (S := F1_) [O.lst ((List.range cpus).map (pzD s))])
  generalize h1 ++ [O.lst ((List.range cpus).map (pzD s))] = h5 at I3 f3 ⊢
  rw [w_cons']
  simp
  rw [lMems I3]
  have gm : h5[ad .mems]? = some (.lst (refs ad .mem s.mems.length)) := I3.at_ .mems trivial
  refine ⟨_, sqo_lst gm, ?_⟩
  refine cr_lst_I (StI h5 (mmD s)) (fun i acc h3 J => by rw [J.h]; exact gm) ⟨rfl, rfl⟩ (by simp [refs]; omega) (fun i x acc h6 ex J => ?_) fun acc h6 J => ?_
  · unfold refs at ex
    rw [List.getElem?_map] at ex
    obtain ⟨y, e1, rfl⟩ := Option.map_eq_some_iff.mp ex
    have hl := (List.getElem?_eq_some_iff.mp e1).1
    rw [List.length_range] at hl
    rw [List.getElem?_range hl] at e1
    cases e1
    obtain rfl := J.h
    simp [X34_2, wipes]
    exact ⟨_, tupMem I3 hl, J.next rfl⟩
  have e1 : acc = (List.range s.mems.length).map (mmD s) := by rw [J.a]; simp [refs]
  obtain rfl := J.h
  subst e1
  refine ⟨_, sq_lst get_new, ?_⟩
  have I4 : MI false F ad s (h6 ++ [O.lst ((List.range s.mems.length).map (mmD s))]) := Re.app I3 _
  have f4 := f3.trans (Fr.app (S := F1_) [O.lst ((List.range s.mems.length).map (mmD s))])
  generalize h6 ++ [O.lst ((List.range s.mems.length).map (mmD s))] = h7 at I4 f4 ⊢
  rw [w_cons']
  simp
  rw [lReady I4]
  refine ⟨_, sq_lst (I4.at_ .ready trivial), ?_⟩
  rw [lDev I4, lDev0 I4, lDev I4, lDev1 I4]
  refine ⟨_, sq_lst (I4.at_ .reqs trivial), ?_⟩
  exact q _ f4
end
end Zl

namespace Zl
open PySem Z
/-! NW: a program made longer. -/
theorem RdN.ltr {p r : Nat} {h : Hh} (R : RdN p r h) : r < h.length := by
  obtain ⟨_, a, l, _, _, e2⟩ := R
  exact lt_of e2
structure Rx (p r : Nat) (h0 : Hh) (a : Nat) (l : List Int) (h : Hh) : Prop where
  w : Rw_ p r h0 a l h
  hr : r < h0.length
  b : By l
theorem Rx.go {p r a : Nat} {h0 h h' : Hh} {l : List Int} (R : Rx p r h0 a l h) (G : Go p r h h') : Rx p r h0 a l h' := ⟨R.w.go G, R.hr, R.b⟩
theorem Rx.app {p r a : Nat} {h0 h : Hh} {l : List Int} (R : Rx p r h0 a l h) (L : List O) : Rx p r h0 a l (h ++ L) := ⟨R.w.app L, R.hr, R.b⟩
theorem Rx.put {p r a : Nat} {h0 h : Hh} {l : List Int} (R : Rx p r h0 a l h) (l' : List Int) (b : By l') : Rx p r h0 a l' (h.set a (.lst (l'.map D.int))) := by
  have ha := R.w.ha
  have hp := R.w.hp
  have hr := R.hr
  refine ⟨⟨⟨?_, ?_⟩, hp, ha, get_set R.w.ea⟩, hr, b⟩
  · obtain ⟨ne, x, m, x0, e1, e2⟩ := R.w.G.rd
    exact ⟨ne, x, m, x0, by rw [get_ne (by omega)]; exact e1, by rw [get_ne (by omega)]; exact e2⟩
  · refine ⟨by rw [List.length_set]; exact R.w.G.fr.le, fun n hn hs => ?_⟩
    rw [get_ne (by omega)]
    exact R.w.G.fr.eq n hn hs
def Lo1 (p r : Nat) (h0 : Hh) (n0 : Nat) (x t m st : D) (i : Int) (sg : Sg) (h : Hh) : Prop := ∃ (l : List Int) (a : Nat), Rx p r h0 a l h ∧ (l.length : Int) = n0 + i ∧ ∃ y, sg = [some (.ref p), some x, some t, some (.ref a), some m, some st, y]
def Lo2_ (p r : Nat) (h0 : Hh) (n0 : Nat) (x t m st : D) (i : Int) (sg : Sg) (h : Hh) : Prop := ∃ (l : List Int) (a : Nat), Rx p r h0 a l h ∧ l.length = n0 ∧ ∃ y, sg = [some (.ref p), some x, some t, some (.ref a), some m, some st, y]
theorem longer_ok (k : Nat) {p r : Nat} {h : Hh} {l : List Int} {Q : D → Hh → Prop} {X : XX} (R : RdN p r h) (B : By l) (l0 : 0 < l.length) (l1 : l.length ≤ 256) (q : ∀ h' (l : List Int), By l → l.length ≤ 256 → Go p r h h' → Q (tI l) h') : Wp (C (k + 2) ([], [95, 108, 97, 119, 95, 108, 111, 110, 103, 101, 114]) [.ref p, tI l] h) Q X := by
  refine wcall P35 rfl rfl ?_
  unfold tI
  simp [F35]
  rw [w_cons']
  simp
  refine next_ok k (by decide) R fun h1 t t0 t1 G => ?_
  rw [w_cons']
  simp
  by_cases c1 : 1 < t
  · simp only [c1, if_true]
    rw [w_cons']
    simp
    exact q h1 l B l1 G
  · simp only [c1, if_false]
    rw [w_cons']
    simp
    have R1 : Rx p r h h1.length l (h1 ++ [.lst (l.map .int)]) := ⟨⟨G.app _, R.lt, G.fr.le, get_new⟩, R.ltr, B⟩
    generalize h1 ++ [O.lst (l.map D.int)] = h2 at R1 ⊢
    generalize h1.length = a at R1 ⊢
    rw [w_cons']
    simp
    rw [b_lenl R1.w.ea]
    simp
    rw [w_cons']
    simp
    have rest : ∀ (h3 : Hh) (m : Int), Rx p r h a l h3 → 0 ≤ m → m + l.length ≤ 256 → Wp (xss (C (k + 1)) prg.tb
          [S.asg (T.nm 5) (E.call ([], [95, 108, 97, 119, 95, 110, 101, 120, 116]) [E.var 0, E.cst (D.int 256)]),
            S.each (T.nm 6) (I.rng1 (E.var 4)) B35_0, S.each (T.nm 6) (I.rng1 (E.cst (D.int 3))) B35_1,
            S.ret (E.blt Bf.tuple [E.var 3])]
          [some (D.ref p), some (D.tup (List.map D.int l)), some (D.int t), some (D.ref a), some (D.int m), none, none] h3) (RetQ Q X) fun _ _ _ => False := by
      intro h3 m R3 m0 m1
      rw [w_cons']
      simp
      refine next_ok k (by decide) R3.w.G.rd fun h4 st st0 st1 G4 => ?_
      replace R3 := R3.go G4
      rw [w_cons']
      simp
      refine ⟨by unfold inRng; simp; omega, ?_⟩
      refine wk_rng (Lo1 p r h l.length (D.tup (List.map D.int l)) (.int t) (.int m) (.int st)) ⟨l, a, R3, by omega, _, rfl⟩ ?_ ?_ ?_
      · rintro sg h5 i ⟨l2, a2, _, _, y, rfl⟩
        simp
      · rintro i sg h5 i0 i1 ⟨l2, a2, R5, e5, y, rfl⟩
        simp
        unfold B35_0
        rw [w_cons']
        simp
        rw [r_app R5.w.ea]
        refine ⟨_, rfl, ?_⟩
        have sm : small i = true := by simp [small]; omega
        refine ⟨sm, .inr (by decide), ?_⟩
        obtain ⟨f1, f2⟩ := fm (i := i.fdiv 7) (m := 2) (by decide)
        replace R5 := R5.app [.lst [.int 13, .int 256]]
        have hg := get_new (h := h5) (o := O.lst [D.int 13, .int 256])
        generalize h5 ++ [O.lst [D.int 13, .int 256]] = h6 at R5 hg ⊢
        rw [x_lst hg, at_pos f1]
        obtain ⟨d, ed, hd⟩ : ∃ d : Int, [D.int 13, .int 256][((i.fdiv 7).fmod 2).toNat]? = some (.int d) ∧ (d = 13 ∨ d = 256) := by
          obtain ⟨n, en⟩ := Int.eq_ofNat_of_zero_le f1
          rw [en] at f2 ⊢
          have hn : n < 2 := by omega
          match n, hn with
          | 0, _ => exact ⟨13, rfl, .inl rfl⟩
          | 1, _ => exact ⟨256, rfl, .inr rfl⟩
        refine ⟨_, ed, ?_⟩
        rw [o_mod]
        refine ⟨by omega, ?_⟩
        obtain ⟨g1, g2⟩ := fm (i := st + i * i * 5) (m := d) (by omega)
        rw [m_append R5.w.ea (by simp; omega)]
        refine ⟨l2 ++ [(st + i * i * 5).fmod d], a2, ?_, by simp; omega, _, rfl⟩
        have := R5.put (l2 ++ [(st + i * i * 5).fmod d]) (R5.b.app (By.one g1 (by omega)))
        rw [List.map_append] at this
        exact this
      · intro sg h5 hI _
        obtain ⟨l2, a2, R5, e5, y, rfl⟩ := hI m0
        simp
        rw [w_cons']
        simp
        refine ⟨by unfold inRng; rfl, ?_⟩
        refine wk_rng (Lo2_ p r h l2.length (D.tup (List.map D.int l)) (.int t) (.int m) (.int st)) ⟨l2, a2, R5, rfl, _, rfl⟩ ?_ ?_ ?_
        · rintro sg h5 i ⟨l2, a2, _, _, y, rfl⟩
          simp
        · rintro i sg h6 i0 i1 ⟨l3, a3, R6, e6, y, rfl⟩
          simp
          unfold B35_1
          rw [w_cons']
          simp
          refine next_pick k R6.w [7, 11, 10, 1] rfl (by decide) fun h7 d hd R7 => ?_
          have R7 : Rx p r h a3 l3 h7 := ⟨R7, R6.hr, R6.b⟩
          rw [b_lenl R7.w.ea]
          refine next_ok k (by simp; omega) R7.w.G.rd fun h8 v v0 v1 G8 => ?_
          replace R7 := R7.go G8
          rw [List.length_map] at v1
          rw [sx_lst R7.w.ea (ix_pos v0 (by simpa using v1))]
          have hd2 : 0 ≤ d ∧ d < 256 := by simp at hd; omega
          have := R7.put (l3.set v.toNat d) (fun b hb => by
            rcases List.mem_or_eq_of_mem_set hb with z | z
            · exact R7.b b z
            · rw [z]; exact hd2)
          rw [List.map_set] at this
          exact ⟨_, a3, this, by simpa using e6, _, rfl⟩
        · intro sg h6 hI _
          obtain ⟨l3, a3, R6, e6, y, rfl⟩ := hI (by decide)
          simp
          rw [w_cons']
          simp
          exact ⟨_, sq_lst R6.w.ea, q _ l3 R6.b (by omega) R6.w.G⟩
    by_cases c2 : t = 1
    · simp only [c2, if_true]
      rw [w_cons']
      simp
      refine next_ok k (by omega) R1.w.G.rd fun h3 m m0 m1 G3 => ?_
      subst c2
      exact rest h3 m (R1.go G3) m0 (by omega)
    · simp only [c2, if_false]
      exact rest h2 _ R1 (by omega) (by omega)
end Zl

namespace Zl
open PySem Z
/-! NX: two machines side by side; k60: the law. -/
open Classical in
noncomputable def rst (w : Bool) (a : Ro → Nat) (s : Ms) (h : Hh) (n : Nat) : Option O := if ∃ k, act w s k ∧ a k = n then none else h[n]?
structure Two (w1 w2 : Bool) (a1 a2 : Ro → Nat) (s1 s2 : Ms) (p r : Nat) (h : Hh) : Prop where
  at1 : ∀ k, act w1 s1 k → h[a1 k]? = some (ob w1 a1 s1 k)
  in1 : ∀ j k, act w1 s1 j → act w1 s1 k → a1 j = a1 k → j = k
  at2 : ∀ k, act w2 s2 k → h[a2 k]? = some (ob w2 a2 s2 k)
  in2 : ∀ j k, act w2 s2 j → act w2 s2 k → a2 j = a2 k → j = k
  ne : ∀ j k, act w1 s1 j → act w2 s2 k → a1 j ≠ a2 k
  o1 : ∀ j, act w1 s1 j → a1 j ≠ p ∧ a1 j ≠ r
  o2 : ∀ j, act w2 s2 j → a2 j ≠ p ∧ a2 j ≠ r
  R : RdN p r h
section
variable {w1 w2 : Bool} {a1 a2 a1' : Ro → Nat} {s1 s2 s1' : Ms} {p r : Nat} {h h' : Hh}
theorem Two.sym (T : Two w1 w2 a1 a2 s1 s2 p r h) : Two w2 w1 a2 a1 s2 s1 p r h := ⟨T.at2, T.in2, T.at1, T.in1, fun j k aj ak e => T.ne k j ak aj e.symm, T.o2, T.o1, T.R⟩
theorem Two.I1 (T : Two w1 w2 a1 a2 s1 s2 p r h) : MI w1 (rst w1 a1 s1 h) a1 s1 h where
  at_ := T.at1
  inj := T.in1
  nf := fun k ak => if_pos ⟨k, ak, rfl⟩
  fo := fun n o e => by
    unfold rst at e
    split at e
    · cases e
    · exact e
theorem rst_ne {w : Bool} {a : Ro → Nat} {s : Ms} {n : Nat} (e : ∀ k, act w s k → a k ≠ n) : rst w a s h n = h[n]? := if_neg fun ⟨k, ak, z⟩ => e k ak z
theorem Two.step (T : Two w1 w2 a1 a2 s1 s2 p r h) (I : MI w1 (rst w1 a1 s1 h) a1' s1' h') : Two w1 w2 a1' a2 s1' s2 p r h' := by
  have e2 : ∀ k, act w2 s2 k → rst w1 a1 s1 h (a2 k) = some (ob w2 a2 s2 k) := fun k ak => by rw [rst_ne fun j aj => T.ne j k aj ak]; exact T.at2 k ak
  obtain ⟨ne, x, l, x0, ep, er⟩ := T.R
  have rp : rst w1 a1 s1 h p = some (rdO r x) := by rw [rst_ne fun j aj => (T.o1 j aj).1]; exact ep
  have rr : rst w1 a1 s1 h r = some (.lst (l.map D.int)) := by rw [rst_ne fun j aj => (T.o1 j aj).2]; exact er
  refine ⟨I.at_, I.inj, fun k ak => I.fo _ _ (e2 k ak), T.in2, fun j k aj ak z => ?_, fun j aj => ⟨fun z => ?_, fun z => ?_⟩, T.o2, ⟨ne, x, l, x0, I.fo _ _ rp, I.fo _ _ rr⟩⟩
  · have := I.nf j aj
    rw [z, e2 k ak] at this; cases this
  · have := I.nf j aj
    rw [z, rp] at this; cases this
  · have := I.nf j aj
    rw [z, rr] at this; cases this
theorem Two.mono (T : Two w1 w2 a1 a2 s1 s2 p r h) (f : Fr (At p) h h') (R : RdN p r h') : Two w1 w2 a1 a2 s1 s2 p r h' :=
  ⟨fun k ak => f.get (T.at1 k ak) (T.o1 k ak).1, T.in1, fun k ak => f.get (T.at2 k ak) (T.o2 k ak).1, T.in2, T.ne, T.o1, T.o2, R⟩
theorem Two.go (T : Two w1 w2 a1 a2 s1 s2 p r h) (G : Go p r h h') : Two w1 w2 a1 a2 s1 s2 p r h' := T.mono G.fr G.rd
theorem Two.fr (T : Two w1 w2 a1 a2 s1 s2 p r h) (f : Fr F1_ h h') : Two w1 w2 a1 a2 s1 s2 p r h' :=
  T.mono ⟨f.le, fun n hn _ => f.eq n hn fun z => z⟩ (T.R.mono f (fun z => z) fun z => z)
end
theorem views_st (cpus : Nat) (s : Ms) (l : List Vw) : stD cpus { s with views := l } = stD cpus s := rfl
theorem views_step (s : Ms) (l : List Vw) (cpu : Nat) (what : Nm) : ({ s with views := l } : Ms).step cpu what = s.step cpu what := rfl
theorem views_wf {cpus n m : Nat} {s : Ms} {l : List Vw} (W : Wf cpus n s) (h : n ≤ m) (hl : l.length ≤ m) : Wf cpus m { s with views := l } := { W with s1 := Nat.le_trans W.s1 h, s2 := Nat.le_trans W.s2 h, s3 := hl }
theorem Vw.ok (v : Vw) : okH 4 v.d = true := by
  unfold Vw.d
  split
  · rfl
  · unfold tI okH
    simp [okH]
theorem okV (l : List Vw) : ∀ d ∈ l.map Vw.d, okH 63 d = true := by
  intro d hd
  obtain ⟨x, _, rfl⟩ := List.mem_map.mp hd
  exact okH_le x.ok (by decide)
theorem b_isl {h : Hh} {n : Nat} {l : List D} {V : D → Hh → Prop} {X : XX} (e : h[n]? = some (.lst l)) : Wp (bltop (.isa "list") [.ref n] h) V X ↔ V (.bl true) h := by
  have a : tyName h (.ref n) = some "list" := by unfold tyName; simp only [e]
  have b : bltop (.isa "list") [.ref n] h = .ok (.bl true) h := by
    unfold bltop
    simp only [a]
    rfl
  rw [b] <;> exact Iff.rfl
def PgI (p r : Nat) (h0 : Hh) (i : Nat) (acc : List D) (h : Hh) : Prop := Go p r h0 h ∧ ∃ ps : List (List Int), acc = ps.map tI ∧ ps.length = i ∧ ∀ x ∈ ps, x.length ≤ 256 ∧ By x
def RtI (p r : Nat) (h0 : Hh) (i : Nat) (acc : List D) (h : Hh) : Prop := Go p r h0 h ∧ ∃ rs : List Int, acc = rs.map D.int ∧ rs.length = i
def junk : Vw := ⟨[], 0, 0, 0, 0, 0, [], [], [], true⟩
structure LwI (cpus : Nat) (m1 m2 : Nat) (x0 x1 x2 x3 : D) (i : Nat) (sg : Sg) (h : Hh) : Prop where
  I : ∃ (a1 a2 : Ro → Nat) (s : Ms) (l : List Vw), a1 .m = m1 ∧ a2 .m = m2 ∧ Two true false a1 a2 { s with views := l } s 2 1 h ∧ Wf cpus (4 + 35 * i) s ∧ l.length ≤ 5 + 35 * i ∧ ∃ y z w, sg = [some x0, some x1, some x2, some x3, some (.ref m1), some (.ref m2), y, z, w]
theorem same_ok (k : Nat) {cpus n : Nat} {a1 a2 : Ro → Nat} {s : Ms} {l : List Vw} {h : Hh} {p r : Nat} (T : Two true false a1 a2 { s with views := l } s p r h) (W : Wf cpus n s) (hn : n + 1 ≤ 8000) (hl : l.length ≤ n + 1) (hc : cpus ≤ 100) {V : Bool → Hh → Prop} {X Y : XX}
    (q : ∀ h', Two true false a1 a2 { s with views := l } s p r h' → V true h') :
    Wp (C (k + 2) ([77, 97, 99, 104, 105, 110, 101], [115, 116, 97, 116, 101]) [.ref (a1 .m)] h) (fun x h => Wp (C (k + 2) ([], [95, 108, 97, 119, 95, 115, 116, 97, 116, 101]) [.ref (a2 .m)] h) (fun y h => Opt (eqD h x y) fun b => V b h) X) Y := by
  refine pstate_ok k T.I1 (views_wf W (Nat.le_succ _) hl) (by omega) hc fun h1 f1 => ?_
  have T1 := T.fr f1
  refine lstate_ok (k + 1) T1.sym.I1 W (by omega) hc fun h2 f2 => ?_
  have T2 := T1.fr f2
  rw [views_st, eqD_refl (stD_ok cpus s)]
  exact q h2 T2
theorem differ_ok (k : Nat) {cpus n : Nat} {a1 a2 : Ro → Nat} {s : Ms} {l : List Vw} {h : Hh} {p r : Nat} (T : Two true false a1 a2 { s with views := l } s p r h) (W : Wf cpus n s) (hn : n + 1 ≤ 8000) (hl : l.length ≤ n + 1) (hc : cpus ≤ 100) {V : Bool → Hh → Prop} {X Y : XX}
    (q : ∀ h', Two true false a1 a2 { s with views := l } s p r h' → V false h') :
    Wp (C (k + 2) ([77, 97, 99, 104, 105, 110, 101], [115, 116, 97, 116, 101]) [.ref (a1 .m)] h) (fun x h => Wp (C (k + 2) ([], [95, 108, 97, 119, 95, 115, 116, 97, 116, 101]) [.ref (a2 .m)] h) (fun y h => Opt (Option.map (fun x => !x) (eqD h x y)) fun b => V b h) X) Y := by
  refine pstate_ok k T.I1 (views_wf W (Nat.le_succ _) hl) (by omega) hc fun h1 f1 => ?_
  have T1 := T.fr f1
  refine lstate_ok (k + 1) T1.sym.I1 W (by omega) hc fun h2 f2 => ?_
  have T2 := T1.fr f2
  rw [views_st, eqD_refl (stD_ok cpus s)]
  exact q h2 T2
theorem law_ok (k : Nat) (ns : List Int) (hl : ns.length ≤ 63) : Wp (runF (C (k + 8)) prg.tb F36 [.rol (ns.map D.int)] []) (fun v _ => v = .bl true) fun _ _ _ => False := by
  refine wp_runF ?_
  simp [F36]
  rw [w_cons']
  simp
  refine draws_ok (k + 7) ns 900 900 rfl (by decide) [] hl fun l g hb hlen => ?_
  simp
  refine ⟨[(.str [100, 114, 97, 119, 115], .ref 1), (.str [97, 116], .int 0)], rfl, ?_⟩
  have R : RdN 2 1 [.lst (g.map .int), .lst (l.map .int), .dct [(.str [100, 114, 97, 119, 115], .ref 1), (.str [97, 116], .int 0)]] := ⟨by decide, 0, l, by decide, rfl, rfl⟩
  generalize ([.lst (g.map .int), .lst (l.map .int), .dct [(.str [100, 114, 97, 119, 115], .ref 1), (.str [97, 116], .int 0)]] : Hh) = h0 at R ⊢
  rw [w_cons']
  simp
  refine next_ok (k + 7) (by decide) R fun h1 n n0 n1 G1 => ?_
  simp
  refine ⟨by unfold inRng; simp; omega, ?_⟩
  refine cr_pur_I (PgI 2 1 h0) ⟨G1, [], rfl, rfl, fun _ z => (by cases z)⟩ (by simp [rngL]; omega) (fun i x acc h4 hx I => ?_) fun acc h4 I => ?_
  · obtain ⟨rfl, _⟩ := rng_get hx
    obtain ⟨G4, ps, rfl, hps, Hps⟩ := I
    simp [X36_0, wipes]
    refine prog_ok (k + 6) G4.rd fun h5 w B w0 w1 G5 => ?_
    refine longer_ok (k + 6) G5.rd B w0 w1 fun h6 w B w1 G6 => ⟨(G4.trans G5).trans G6, ps ++ [w], by simp, by simp [hps], fun x hx => ?_⟩
    rcases List.mem_append.mp hx with z | z
    · exact Hps x z
    · rw [List.mem_singleton.mp z]; exact ⟨w1, B⟩
  obtain ⟨G4, ps, rfl, hps, Hps⟩ := I
  have hps : ps.length ≤ 4 := by rw [hps]; simp [rngL]; omega
  refine ⟨_, sq_lst get_new, ?_⟩
  replace G4 := G4.app [.lst (ps.map tI)]
  generalize h4 ++ [O.lst (ps.map tI)] = h5 at G4
  rw [w_cons']
  simp
  refine next_ok (k + 7) (by decide) G4.rd fun h6 m m0 m1 G6 => ?_
  simp
  refine ⟨by unfold inRng; simp; omega, ?_⟩
  refine cr_pur_I (RtI 2 1 h0) ⟨G4.trans G6, [], rfl, rfl⟩ (by simp [rngL]; omega) (fun i x acc h7 hx I => ?_) fun acc h7 I => ?_
  · obtain ⟨rfl, _⟩ := rng_get hx
    obtain ⟨G7, rs, rfl, hrs⟩ := I
    simp [X36_1, wipes]
    refine next_ok (k + 7) (by decide) (G7.app _).rd fun h8 v v0 v1 G8 => ?_
    have hg := G8.get get_new (by have := G7.rd.lt; omega)
    replace G8 := (G7.app _).trans G8
    rw [x_lst hg, at_pos v0]
    obtain ⟨d, ed, hd⟩ : ∃ d : Int, [D.int 40, .int 999][v.toNat]? = some (.int d) ∧ 0 < d := by
      obtain ⟨n, rfl⟩ := Int.eq_ofNat_of_zero_le v0
      have hn : n < 2 := by omega
      match n, hn with
      | 0, _ => exact ⟨40, rfl, by decide⟩
      | 1, _ => exact ⟨999, rfl, by decide⟩
    refine ⟨_, ed, ?_⟩
    refine next_ok (k + 7) hd G8.rd fun h9 w w0 w1 G9 => ?_
    simp
    exact ⟨G8.trans G9, rs ++ [1 + w], by simp, by simp [hrs]⟩
  obtain ⟨G7, rs, rfl, hrs⟩ := I
  have hr1 : rs.length ≤ 4 := by rw [hrs]; simp [rngL]; omega
  have hr0 : 0 < rs.length := by rw [hrs]; simp [rngL]; omega
  refine ⟨_, sq_lst get_new, ?_⟩
  replace G7 := G7.app [.lst (rs.map D.int)]
  generalize h7 ++ [O.lst (rs.map D.int)] = h8 at G7
  have R8 := G7.rd
  rw [w_cons']
  simp
  refine pmake_ok (k + 5) (F := fun n => h8[n]?) Hps hps (by omega) (fun n o e => e) fun h9 a1 e1 I9 => ⟨rfl, ?_⟩
  rw [← e1]
  rw [w_cons']
  simp
  refine lmodel_ok (k + 6) (F := fun n => h9[n]?) Hps hps (by omega) (fun n o e => e) fun h10 a2 I10 => ?_
  have H : MemOk (ps.map memOf) := ⟨by simpa using hps, fun m hm => by
    obtain ⟨p, h1, rfl⟩ := List.mem_map.mp hm
    refine ⟨memOf_len (Hps p h1).1, fun b hb => ?_⟩
    rcases List.mem_append.mp hb with z | z
    · exact (Hps p h1).2 b z
    · rw [List.eq_of_mem_replicate z]; decide⟩
  have W0 := boot_ok (rates := rs) H
  generalize boot (ps.map memOf) rs = s0 at I9 I10 W0
  have T : Two true false a1 a2 { s0 with views := s0.views } s0 2 1 h10 := by
    obtain ⟨ne, x, l, x0, ep, er⟩ := R8
    have ep9 := I9.fo 2 _ ep
    have er9 := I9.fo 1 _ er
    refine ⟨fun k ak => I10.fo _ _ (I9.at_ k ak), I9.inj, I10.at_, I10.inj, fun j k aj ak z => ?_, fun j aj => ⟨fun z => ?_, fun z => ?_⟩, fun j aj => ⟨fun z => ?_, fun z => ?_⟩, ⟨ne, x, l, x0, I10.fo _ _ ep9, I10.fo _ _ er9⟩⟩
    · have := I10.nf k ak
      rw [← z, I9.at_ j aj] at this; cases this
    · have := I9.nf j aj
      rw [z, ep] at this; cases this
    · have := I9.nf j aj
      rw [z, er] at this; cases this
    · have := I10.nf j aj
      rw [z, ep9] at this; cases this
    · have := I10.nf j aj
      rw [z, er9] at this; cases this
  clear I9 I10
  rw [w_cons']
  simp
  rw [rvM T.I1 rfl rfl]
  refine ⟨_, rfl, ?_⟩
  simp
  refine differ_ok (k + 6) T W0 (by decide) (by have := W0.s3; omega) (by omega) fun h11 T => ?_
  simp
  rw [w_cons']
  simp
  refine next_ok (k + 7) (by decide) T.R fun h12 t t0 t1 G => ?_
  replace T := T.go G
  simp
  refine ⟨by unfold inRng; simp; omega, ?_⟩
  refine wk_rng (fun i => LwI rs.length (a1 .m) (a2 .m) (.rol (ns.map D.int)) (.ref 2) (.tup (ps.map tI)) (.tup (rs.map D.int)) i.toNat) ⟨⟨a1, a2, s0, s0.views, rfl, rfl, T, W0, by have := W0.s3; omega, _, _, _, rfl⟩⟩ ?_ ?_ ?_
  · rintro sg h i ⟨⟨_, _, _, _, _, _, _, _, _, y, z, w, rfl⟩⟩
    simp
  · rintro i sg h i0 i1 ⟨⟨b1, b2, s, l, e1, e2, T, W, len, y, z, w, rfl⟩⟩
    obtain ⟨i, rfl⟩ := Int.eq_ofNat_of_zero_le i0
    have hi : i < 160 := by omega
    simp at W len
    simp
    unfold B36_2
    rw [w_cons']
    simp
    refine pick_ok (k + 6) hr0 T.R fun h1 x x1 x2 G => ?_
    replace T := T.go G
    rw [w_cons']
    simp
    rw [← e2]
    refine lstep_ok (k + 2) T.sym.I1 W (by omega) x1 x2 fun h2 b2' e2' I2 => ?_
    replace T := (T.sym.step I2).sym
    rw [w_cons']
    simp
    rw [← e1, rvM T.I1 rfl rfl]
    refine ⟨_, rfl, ?_⟩
    simp
    refine pstep_ok k T.I1 (views_wf (m := 5 + 35 * i) W (by omega) len) (by omega) x1 fun h3 b1' e1' I3 => ?_
    replace T : Two true false b1' b2' (s.step x.1 x.2) (s.step x.1 x.2) 2 1 h3 := T.step I3
    have W' : Wf rs.length (4 + 35 * (i + 1)) (s.step x.1 x.2) := W.step x1
    clear I2 I3
    generalize s.step x.1 x.2 = s' at T W'
    have V1 : h3[b1' .views]? = some (.lst (s'.views.map Vw.d)) := T.at1 .views trivial
    have V2 : h3[b2' .views]? = some (.lst (s'.views.map Vw.d)) := T.at2 .views trivial
    rw [w_cons']
    simp
    rw [b_isl V1]
    simp
    rw [← e2', lViews T.sym.I1, q_lst V1 V2 (okV _)]
    simp
    rw [w_cons']
    simp
    rw [r_app V1]
    refine ⟨_, rfl, ?_⟩
    rw [m_append V1 (by have := W'.s3; simp; omega)]
    have I4 := gviews T.I1 (l := s'.views ++ [junk])
    rw [List.map_append] at I4
    replace T : Two true false b1' b2' { s' with views := s'.views ++ [junk] } s' 2 1 (h3.set (b1' .views) (.lst (s'.views.map Vw.d ++ [.str [99, 104, 97, 110, 103, 101, 100]]))) := T.step I4
    generalize h3.set (b1' .views) (.lst (s'.views.map Vw.d ++ [.str [99, 104, 97, 110, 103, 101, 100]])) = h4 at T ⊢
    rw [w_cons']
    simp
    have len' : (s'.views ++ [junk]).length ≤ 5 + 35 * (i + 1) := by have := W'.s3; simp; omega
    have fin : ∀ h5, Two true false b1' b2' { s' with views := s'.views ++ [junk] } s' 2 1 h5 → LwI rs.length (b1 Ro.m) (b2' Ro.m) (D.rol (List.map D.int ns)) (D.ref 2) (D.tup (List.map tI ps)) (D.tup (List.map D.int rs)) (i + 1)
        [some (D.rol (List.map D.int ns)), some (D.ref 2), some (D.tup (List.map tI ps)), some (D.tup (List.map D.int rs)), some (D.ref (b1 Ro.m)), some (D.ref (b2' Ro.m)), some (D.int ↑i), some x.d, some (D.ref (b1' Ro.views))] h5 :=
      fun h5 T5 => ⟨⟨b1', b2', s', s'.views ++ [junk], e1', rfl, T5, W', len', _, _, _, rfl⟩⟩
    by_cases c : (i : Int).fmod 3 = 0
    · simp only [c, if_true, decide_true]
      rw [← e1', rvM T.I1 rfl rfl]
      refine ⟨_, rfl, ?_⟩
      simp
      refine differ_ok (k + 6) T W' (by omega) (by omega) (by omega) fun h5 T => ?_
      simp
      rw [e1']
      exact fin h5 T
    · simp only [c, if_false, decide_false]
      exact fin h4 T
  · rintro sg h hI _
    obtain ⟨⟨b1, b2, s, l, e1, e2, T, W, len, y, z, w, rfl⟩⟩ := hI (by omega)
    simp
    rw [w_cons']
    simp
    rw [← e1, ← e2, rvM T.I1 rfl rfl]
    refine ⟨_, rfl, ?_⟩
    simp
    exact same_ok (k + 6) T W (by omega) (by omega) (by omega) fun _ _ => rfl
theorem asks : ∀ ns : List Int, ns.length ≤ 63 → ∃ h', runK prg.P prg.tb 30 F36 [.rol (ns.map D.int)] [] = .ok (.bl true) h' := by
  intro ns hl
  obtain ⟨v, h', e, rfl⟩ := wp_eq (law_ok 21 ns hl)
  exact ⟨h', e⟩
end Zl

theorem PySem.Challenge.cw_tapline_k60_the_machine_pick_by_pick_holds : PySem.Challenge.rw_tapline_k60_the_machine_pick_by_pick.Holds := by
  exact Zl.holds_of Zl.asks
