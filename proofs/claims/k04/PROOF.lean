import PyProof.Rows.All
import Wide.All
import OpenK.AllK
import Wide.FinOn
import HandS.ForMost
import HandS.IsInst
import HandS.Wide
import HandS.Defaults
import HandS.Exc
import HandS.Lambda
import HandS.HeadHook4
import HandS.ExcField
import HandS.Comp
import HandS.ExcOwn
import HandS.Zip
import KE.KUnpackStar
import HandS.TupMul
import HandS.TupAny
import HandS.RaiseMore
import PyProof.NoPylong
import HandS.TupLe
import KE.KRevSl
import HandS.ExcInit
import KE.KExcInit
import HandS.More
import HandS.ExcIs
import HandS.WordsExc
import KE.KExcIs
import HandS.Conv
import HandS.TryOnly
import HandS.Dict
import HandS.Ends
import HandS.EndBits
import HandS.MakeKwOnly
import KE.KStateDown
import HandS.Words
import HandS.Head0
import HandS.Head1
import HandS.Head2
import HandS.HeadEnd
import HandS.HeadHook1
import HandS.HeadHook2
import HandS.HeadHook3
import PySem.Challenge.RW_rowhaul_k04_whole_one_in_the_place_of_an
set_option Elab.async false
set_option linter.all false
set_option maxRecDepth 100000
/-! Ev: a small interpreter of the Python that the laws use, over data and a memory of what is changed in place. -/
namespace Ev
open PySem

/-- a value: data that is never changed, or the place of a thing that is -/
inductive Vl where
  | d (x : PyData)
  | loc (l : Nat)

/-- a thing that is changed in place -/
inductive Ob where
  | lst (xs : List PyData)
  | dct (kvs : List (PyData × PyData))
  | ins (c : Nat) (fs : List (Str × Vl))
  /-- the table of code objects of the law: its lambdas' name -/
  | tab (q : Str)

abbrev Mem := List Ob

structure Exn where
  cls : Str
  fs : List (Str × PyData)

/-- an outcome; stk: nothing is claimed -/
inductive Res (α : Type) where
  | ok (a : α) (m : Mem)
  | err (e : Exn) (m : Mem)
  | stk

@[reducible] def Res.bind {α β : Type} (r : Res α) (f : α → Mem → Res β) : Res β :=
  match r with
  | .ok a m => f a m
  | .err e m => .err e m
  | .stk => .stk

/-- where nothing may be raised -/
@[reducible] def Res.bindN {α β : Type} (r : Res α) (f : α → Mem → Res β) : Res β :=
  match r with
  | .ok a m => f a m
  | .err _ _ => .stk
  | .stk => .stk

/-- what a value reads as -/
def rd (m : Mem) : Vl → Option PyData
  | .d x => some x
  | .loc l => match m[l]? with
    | some (.lst xs) => some (.list xs)
    | some (.dct kvs) => some (.dict kvs)
    | _ => none

/-! ### operations on data -/
def mulOk (i j : Int) : Bool := decide (i.natAbs.log2 + j.natAbs.log2 < 1000000)
def divOk (j : Int) : Bool := decide (j ≠ 0) && decide (j.natAbs.log2 < 9000)
def powOk (i j : Int) : Bool := decide (0 ≤ j) && decide ((Builtin.Int.intBits i : Int) * j ≤ 2 ^ 27)
def repOk (n : Nat) (k : Int) : Bool := decide (-(2 ^ 63) ≤ k) && decide (k < 2 ^ 63) && decide (n * k.toNat ≤ sizeLine)
def repL (xs : List PyData) (k : Int) : List PyData := (List.replicate k.toNat xs).flatten

def addP : PyData → PyData → Option PyData
  | .int i, .int j => some (.int (i + j))
  | .list xs, .list ys => if xs.length + ys.length ≤ sizeLine then some (.list (xs ++ ys)) else none
  | .tuple xs, .tuple ys => if xs.length + ys.length ≤ sizeLine then some (.tuple (xs ++ ys)) else none
  | _, _ => none
def mulP : PyData → PyData → Option PyData
  | .int i, .int j => if mulOk i j then some (.int (i * j)) else none
  | .list xs, .int k => if repOk xs.length k then some (.list (repL xs k)) else none
  | .tuple xs, .int k => if repOk xs.length k then some (.tuple (repL xs k)) else none
  | _, _ => none
def binP (o : Operator) (a b : PyData) : Option PyData :=
  match o with
  | .Add => addP a b
  | .Sub => (match a, b with | .int i, .int j => some (.int (i - j)) | _, _ => none)
  | .Mult => mulP a b
  | .FloorDiv => (match a, b with | .int i, .int j => if divOk j then some (.int (i.fdiv j)) else none | _, _ => none)
  | .Mod => (match a, b with | .int i, .int j => if j = 0 then none else some (.int (i.fmod j)) | _, _ => none)
  | .Pow => (match a, b with | .int i, .int j => if powOk i j then some (.int (i ^ j.toNat)) else none | _, _ => none)
  | _ => none
/-- parts that are compared: no dict in it -/
def elOk (x : PyData) : Bool := x.canLay0 && decide (x.depth ≤ 60)
/-- ==; lists of other lengths differ whatever is in them; of tuples the parts at the same places are compared -/
def eqP (a b : PyData) : Option Bool :=
  match a, b with
  | .str x, .str y => some (x == y)
  | .list xs, .list ys => if xs.length = ys.length then (if SeqAt.shaped (.list xs) && SeqAt.shaped (.list ys) then some (PyData.eqv (.list xs) (.list ys)) else none) else some false
  | .tuple xs, .tuple ys => if ((xs.zip ys).all fun p => elOk p.1 && elOk p.2) = true then some (((xs.zip ys).all fun p => PyData.eqv p.1 p.2) && decide (xs.length = ys.length)) else none
  | .dict _, .tuple _ => some false
  | a, b => if SeqAt.shaped a && SeqAt.shaped b then some (PyData.eqv a b) else none
/-- is, of truths and None -/
def isN : PyData → PyData → Option Bool
  | .bool a, .bool b => some (decide (a = b))
  | a, .none => some (match a with | .none => true | _ => false)
  | _, _ => none
def strsOf : List PyData → Option (List Str)
  | [] => some []
  | .str x :: r => (strsOf r).map (x :: ·)
  | _ :: _ => none
/-- in, by what is equal -/
def inG (a : PyData) (xs : List PyData) : Option Bool := if SeqAt.shaped a && PyData.canLayAll0 xs then some (xs.any fun y => PyData.eqv y a) else none
/-- in, of a text among texts; else by what is equal -/
def inP : PyData → PyData → Option Bool
  | .str z, .tuple xs => (match strsOf xs with
    | some ss => some (ss.any fun y => decide (y = z))
    | none => inG (.str z) xs)
  | .str z, .list xs => (match strsOf xs with
    | some ss => some (ss.any fun y => decide (y = z))
    | none => inG (.str z) xs)
  | a, .list xs => inG a xs
  | a, .tuple xs => inG a xs
  | _, _ => none
def cmpP (o : CmpOp) (a b : PyData) : Option Bool :=
  match o with
  | .Eq => eqP a b
  | .NotEq => (match a, b with | .str x, .str y => some (!(x == y)) | a, b => if SeqAt.shaped a && SeqAt.shaped b then some (!PyData.eqv a b) else none)
  | .Lt => (match a, b with | .int i, .int j => some (decide (i < j)) | _, _ => none)
  | .LtE => (match a, b with | .int i, .int j => some (decide (i ≤ j)) | _, _ => none)
  | .Gt => (match a, b with | .int i, .int j => some (decide (j < i)) | _, _ => none)
  | .GtE => (match a, b with | .int i, .int j => some (decide (j ≤ i)) | _, _ => none)
  | .Is => isN a b
  | .IsNot => (isN a b).map (!·)
  | .In => inP a b
  | .NotIn => (inP a b).map (!·)
def truP : PyData → Option Bool
  | .none => some false
  | .bool b => some b
  | .int i => some (i != 0)
  | .list xs => some (!xs.isEmpty)
  | .tuple xs => some (!xs.isEmpty)
  | _ => none
/-- the type's name -/
def tyN : PyData → String
  | .none => "NoneType"
  | .bool _ => "bool"
  | .int _ => "int"
  | .str _ => "str"
  | .list _ => "list"
  | .tuple _ => "tuple"
  | .dict _ => "dict"
def isP (t : String) (x : PyData) : Bool := decide (tyN x = t) || (decide (t = "int") && decide (tyN x = "bool"))
def ixP (a i : PyData) : Option PyData :=
  match a, i with
  | .list xs, .int i => L2.atI xs i
  | .tuple xs, .int i => L2.atI xs i
  | _, _ => none
def cutL (xs : List PyData) (lo hi : Option Int) : List PyData := (xs.drop (HT.sIx xs.length 0 lo)).take (HT.sIx xs.length xs.length hi - HT.sIx xs.length 0 lo)
def slP (a : PyData) (lo hi : Option Int) : Option PyData :=
  match a with
  | .list xs => some (.list (cutL xs lo hi))
  | .tuple xs => some (.tuple (cutL xs lo hi))
  | _ => none
/-- what is read of it turned about -/
def revP : PyData → Option PyData
  | .list ds => some (.list ds.reverse)
  | .tuple ds => some (.tuple ds.reverse)
  | _ => none
def intsOf : List PyData → Option (List Int)
  | [] => some []
  | .int i :: r => (intsOf r).map (i :: ·)
  | _ :: _ => none
def maxI : List Int → Option Int
  | [] => none
  | i :: r => some (r.foldl (fun a b => if b > a then b else a) i)
def minI : List Int → Option Int
  | [] => none
  | i :: r => some (r.foldl (fun a b => if b < a then b else a) i)
def bools : List PyData → Option (List Bool)
  | [] => some []
  | .bool b :: r => (bools r).map (b :: ·)
  | _ :: _ => none

/-! no list in it -/
mutual
def noLst : PyData → Bool
  | .list _ => false
  | .tuple xs => noLstA xs
  | .dict ps => noLstK ps
  | _ => true
def noLstA : List PyData → Bool
  | [] => true
  | x :: r => noLst x && noLstA r
def noLstK : List (PyData × PyData) → Bool
  | [] => true
  | (_, x) :: r => noLst x && noLstK r
end
inductive BI where
  | len | abs | max2 | min2 | int1 | tuple1 | list1 | all1 | any1 | repr1 | divmod2 | str1 | max1 | min1 | sum1
def biName : BI → Str
  | .len => "len" | .abs => "abs" | .max2 => "max" | .min2 => "min" | .int1 => "int" | .tuple1 => "tuple" | .list1 => "list" | .all1 => "all" | .any1 => "any" | .repr1 => "repr" | .divmod2 => "divmod" | .str1 => "str" | .max1 => "max" | .min1 => "min" | .sum1 => "sum"
/-- built-in functions of data; what is new is data -/
def biP (b : BI) (as : List PyData) : Option PyData :=
  match b, as with
  | .len, [.list xs] => some (.int xs.length)
  | .len, [.tuple xs] => some (.int xs.length)
  | .abs, [.int i] => some (.int (if i < 0 then -i else i))
  | .max2, [.int i, .int j] => some (.int (if j > i then j else i))
  | .min2, [.int i, .int j] => some (.int (if j < i then j else i))
  | .int1, [.int i] => some (.int i)
  | .int1, [.bool b] => some (.int (if b then 1 else 0))
  | .tuple1, [.list xs] => some (.tuple xs)
  | .tuple1, [.tuple xs] => some (.tuple xs)
  | .list1, [.list xs] => some (.list xs)
  | .list1, [.tuple xs] => some (.list xs)
  | .all1, [.list xs] => (bools xs).map fun bs => .bool (bs.all id)
  | .any1, [.list xs] => (bools xs).map fun bs => .bool (bs.any id)
  | .repr1, [x] => if x.showable && decide (x.shown.length ≤ sizeLine) && decide (x.depth ≤ 60) then some (.str x.shown) else none
  | .divmod2, [.int i, .int j] => if decide (0 < j) && decide (j.natAbs.log2 < 9000) then some (.tuple [.int (i / j), .int (i % j)]) else none
  | .str1, [.int i] => if i.natAbs.log2 < 1920 then some (.str (toString i : String)) else none
  | .str1, [.str x] => some (.str x)
  | .max1, [.list xs] => (intsOf xs).bind fun is => (maxI is).map .int
  | .min1, [.list xs] => (intsOf xs).bind fun is => (minI is).map .int
  | .sum1, [.list xs] => (intsOf xs).map fun is => .int is.sum
  | _, _ => none

/-! ### the syntax -/
/-- what is asked of a caught thing: isinstance; acc: the classes of which it is True -/
inductive CHT where
  | is1 (c : Str) (acc : List Str)
  | isN (cs acc : List Str)
  | not_ (t : CHT)
  | and_ (a b : CHT)
deriving DecidableEq
inductive CHV where
  | str (x : Str)
  | int (i : Int)
  | fld (f : Str)
  | pair (a b : CHV)
  | tst (t : CHT)
  | ifx (t : CHT) (a b : CHV)
deriving DecidableEq
/- what is bound by a for -/
mutual
inductive Tg where
  | nm (i : Nat)
  | tup (ts : Tgs)
inductive Tgs where
  | nil
  | cons (t : Tg) (r : Tgs)
end
mutual
def Tg.slots : Tg → List Nat
  | .nm i => [i]
  | .tup ts => ts.slots
def Tgs.slots : Tgs → List Nat
  | .nil => []
  | .cons t r => t.slots ++ r.slots
end
/-- a suite of an except clause -/
inductive CH where
  | ret (v : CHV)
  | set (i : Nat) (v : CHV)
  | ifret (t : CHT) (v : CHV)
deriving DecidableEq
/-- a def x(a): try: a() except y as n: suite; return told -/
structure LamD where
  x : Str
  a : Str
  n : Str
  y : Str
  known : List Str
  acc : List Str
  h : List CH
  told : Str
deriving DecidableEq
mutual
inductive CE where
  | var (i : Nat)
  | cst (d : PyData)
  | gk (x : Str) (d : PyData)
  | bin (o : Operator) (a b : CE)
  | neg (a : CE)
  | not_ (a : CE)
  | and_ (es : CEs)
  | or_ (es : CEs)
  | cmp (o : CmpOp) (a b : CE)
  | cmp2 (o1 o2 : CmpOp) (a b c : CE)
  | ifx (c : CT) (a b : CE)
  | tup (es : CEs)
  | lst (own : Bool) (es : CEs)
  | dct (own : Bool) (ks : List PyData) (vs : CEs)
  | ix (a i : CE)
  | sl (a : CE) (lo hi : CO)
  /-- a[::k], k is -1 -/
  | rev (a k : CE)
  /-- list(a), kept -/
  | lstC (a : CE)
  /-- list(range(a)); own: kept -/
  | lstR (own : Bool) (a : CE)
  /-- a * b, a list, kept -/
  | repO (a b : CE)
  /-- o.pop(i) -/
  | popA (o i : CE)
  | call (g : Nat) (x : Str) (es : CEs)
  | callD (g : Nat) (x : Str) (es : CEs) (ds : List PyData)
  | callK (g : Nat) (x : Str) (es : CEs) (ks : List Str) (vs : CEs)
  | inK (neg : Bool) (a : CE) (x : Str) (ks : List Str)
  | bi (b : BI) (es : CEs)
  | lam (l : LamD) (q : Str) (e : CE)
  | isi (a : CE) (t : String)
  | lc (own : Bool) (t : Tg) (xs : List Str) (src : CI) (c : CTs) (e : CE)
inductive CEs where
  | nil
  | cons (e : CE) (r : CEs)
inductive CO where
  | no
  | so (e : CE)
inductive CT where
  | v (e : CE)
  | and_ (ts : CTs)
  | or_ (ts : CTs)
  | not_ (t : CT)
inductive CTs where
  | nil
  | cons (t : CT) (r : CTs)
inductive CI where
  | e (c : CE)
  | rng1 (c : CE)
  | rng2 (a b : CE)
  | zip (es : CEs)
  | enum (c : CE)
end
mutual
inductive CS where
  | set (i : Nat) (e : CE)
  | setix (o i e : CE)
  | ret (e : CE)
  | expr (e : CE)
  | iff (c : CT) (t f : CSs)
  | for_ (t : Tg) (s : CI) (b : CSs)
  | while_ (n : Nat) (c : CT) (b : CSs)
  | aug (i : Nat) (neg : Bool) (e : CE)
  | pass
  | raise_ (x m : Str)
  | raiseF (x f : Str) (e : CE)
  | setSt (is : List Nat) (j : Nat) (e : CE)
  | setT (is : List Nat) (e : CE)
  | app (o e : CE)
  | setP (i j : Nat) (a b : CE)
  | try_ (b : CS) (c : Str) (known acc : List Str) (i : Nat) (h : List CH)
inductive CSs where
  | nil
  | cons (s : CS) (r : CSs)
  /-- i = x[w]; j = i(es), x a table of functions -/
  | op (i : Nat) (x : Str) (tb : List (Str × Nat)) (w : CE) (j : Nat) (es : CEs) (r : CSs)
  /-- i = x[w]; o.append(i(es)) -/
  | opA (i : Nat) (x : Str) (tb : List (Str × Nat)) (w : CE) (o : CE) (es : CEs) (r : CSs)
end

/-! ### what it does -/
abbrev Sl := List (Option Vl)
inductive Fl where
  | nx
  | ret (v : Vl)
  | brk
  | cont

@[reducible] def dat (o : Option PyData) (m : Mem) : Res Vl :=
  match o with
  | some d => .ok (.d d) m
  | none => .stk
@[reducible] def bol (o : Option Bool) (m : Mem) : Res Vl :=
  match o with
  | some b => .ok (.d (.bool b)) m
  | none => .stk
@[reducible] def rdd (v : Vl) (m : Mem) (k : PyData → Res α) : Res α :=
  match rd m v with
  | some x => k x
  | none => .stk
/-- what all of them read as -/
def rds (m : Mem) : List Vl → Option (List PyData)
  | [] => some []
  | v :: r => match rd m v with
    | some x => (rds m r).map (x :: ·)
    | none => none
/-- a list of data only -/
def dats : List Vl → Option (List PyData)
  | [] => some []
  | .d x :: r => (dats r).map (x :: ·)
  | .loc _ :: _ => none
/-- a new list: data, or a place of its own -/
@[reducible] def mkL (own : Bool) (xs : List PyData) (m : Mem) : Res Vl :=
  match own with
  | true => .ok (.loc m.length) (m ++ [.lst xs])
  | false => .ok (.d (.list xs)) m
/-- the loop's own list stands as it stood -/
noncomputable def same (m : Mem) : List (Nat × List PyData) → Bool
  | [] => true
  | (l, xs) :: r => @decide (m[l]? = some (.lst xs)) (Classical.propDecidable _) && same m r
structure Its where
  items : List PyData
  src : List (Nat × List PyData)
@[reducible] def itsOf (v : Vl) (m : Mem) : Res Its :=
  match v with
  | .d (.list xs) => .ok ⟨xs, []⟩ m
  | .d (.tuple xs) => .ok ⟨xs, []⟩ m
  | .d _ => .stk
  | .loc l => match m[l]? with
    | some (.lst xs) => .ok ⟨xs, [(l, xs)]⟩ m
    | _ => .stk
/-- all of them -/
@[reducible] def itsAll : List Vl → Mem → Res (List Its)
  | [], m => .ok [] m
  | v :: r, m => (itsOf v m).bind fun i m1 => (itsAll r m1).bind fun is m2 => .ok (i :: is) m2
/-- the least length -/
def minL : List (List PyData) → Nat
  | [] => 0
  | [x] => x.length
  | x :: y :: r => min x.length (minL (y :: r))
def zipD (xss : List (List PyData)) : List PyData := (List.range (minL xss)).map fun i => .tuple (xss.map fun xs => xs.getD i .none)
def enumD (xs : List PyData) : List PyData := (List.range xs.length).map fun (i : Nat) => .tuple [.int (i : Int), xs.getD i .none]
mutual
def bindT : Tg → PyData → List (Option Vl) → Option (List (Option Vl))
  | .nm i, d, env => some (env.set i (some (.d d)))
  | .tup ts, .tuple ds, env => bindTs ts ds env
  | .tup _, _, _ => none
def bindTs : Tgs → List PyData → List (Option Vl) → Option (List (Option Vl))
  | .nil, [], env => some env
  | .cons t r, d :: ds, env => (match bindT t d env with
    | some e1 => bindTs r ds e1
    | none => none)
  | .nil, _ :: _, _ => none
  | .cons _ _, [], _ => none
end
def rngOk (i : Int) : Bool := decide (-(2 ^ 62) ≤ i) && decide (i < 2 ^ 62)
def rngL (lo hi : Int) : List PyData := (List.range (hi - lo).toNat).map fun (k : Nat) => PyData.int (lo + (k : Int))
/-- the comprehension's list grows at L -/
noncomputable def lcLoop (src : List (Nat × List PyData)) (t : Tg) (L : Nat) (c : Sl → Mem → Res Bool) (e : Sl → Mem → Res Vl) : List PyData → Sl → Mem → Res Unit
  | [], _, m => if same m src then .ok () m else .stk
  | x :: xs, env, m => if same m src then (match bindT t x env with
      | none => .stk
      | some env1 => (c env1 m).bind fun b m1 =>
        match b with
        | true => (e env1 m1).bind fun y m2 =>
          match y with
          | .d d => (match m2[L]? with
            | some (.lst acc) => if acc.length < sizeLine then lcLoop src t L c e xs env (m2.set L (.lst (acc ++ [d]))) else .stk
            | _ => .stk)
          | .loc _ => .stk
        | false => lcLoop src t L c e xs env m1)
    else .stk
noncomputable def forLoop (src : List (Nat × List PyData)) (t : Tg) (b : Sl → Mem → Res (Fl × Sl)) : List PyData → Sl → Mem → Res (Fl × Sl)
  | [], env, m => if same m src then .ok (.nx, env) m else .stk
  | x :: xs, env, m => if same m src then (match bindT t x env with
      | none => .stk
      | some env0 => (b env0 m).bind fun r m1 =>
        match r with
        | (.nx, env1) => forLoop src t b xs env1 m1
        | (.cont, env1) => forLoop src t b xs env1 m1
        | (.brk, env1) => .ok (.nx, env1) m1
        | (.ret u, env1) => .ok (.ret u, env1) m1)
    else .stk
noncomputable def whLoop (c : Sl → Mem → Res Bool) (b : Sl → Mem → Res (Fl × Sl)) : Nat → Sl → Mem → Res (Fl × Sl)
  | 0, _, _ => .stk
  | n + 1, env, m => (c env m).bind fun t m1 => match t with
    | false => .ok (.nx, env) m1
    | true => (b env m1).bind fun r m2 =>
      match r with
      | (.nx, env1) => whLoop c b n env1 m2
      | (.cont, env1) => whLoop c b n env1 m2
      | (.brk, env1) => .ok (.nx, env1) m2
      | (.ret u, env1) => .ok (.ret u, env1) m2

def noLoc (n : Nat) : Vl → Bool
  | .d _ => true
  | .loc l => decide (l < n)
def obOk (n : Nat) : Ob → Bool
  | .lst _ => true
  | .dct _ => true
  | .ins _ fs => fs.all fun p => noLoc n p.2
  | .tab _ => true
/-- the end of a call: what was made within is data from now on -/
def closeV (n : Nat) (m : Mem) : Vl → Option Vl
  | .d x => some (.d x)
  | .loc l => if l < n then some (.loc l) else (rd m (.loc l)).map .d
def closeC (keep : Bool) (n : Nat) (v : Vl) (m : Mem) : Res Vl :=
  match keep with
  | true => .ok v m
  | false => if n ≤ m.length && (m.take n).all (obOk n) then (match closeV n m v with
    | some u => .ok u (m.take n)
    | none => .stk) else .stk
abbrev CallT := Nat → List Vl → Mem → Res Vl
/-- o[i] = v -/
@[reducible] def setIx (o i v : Vl) (m : Mem) : Option Mem :=
  match o, i, v with
  | .loc l, .d (.int k), .d x => (match m[l]? with
    | some (.lst xs) => (match L2.ixN xs.length k with
      | some j => some (m.set l (.lst (xs.set j x)))
      | none => none)
    | _ => none)
  | _, _, _ => none
def smallI (k : Int) : Bool := decide (-(2 ^ 63) ≤ k) && decide (k < 2 ^ 63)
def lrOk (i : Int) : Bool := decide (-(2 ^ 62) ≤ i) && decide (i ≤ 16777216)
def isM1 : Vl → Bool
  | .d (.int i) => i == -1
  | _ => false
/-- a list stands there -/
@[reducible] def isL (o : Vl) (m : Mem) : Bool :=
  match o with
  | .loc l => (match m[l]? with
    | some (.lst _) => true
    | _ => false)
  | .d _ => false
/-- o.append(v) -/
@[reducible] def apIx (o v : Vl) (m : Mem) : Option Mem :=
  match o, v with
  | .loc l, .d x => (match m[l]? with
    | some (.lst xs) => if xs.length < sizeLine then some (m.set l (.lst (xs ++ [x]))) else none
    | _ => none)
  | _, _ => none
/-- o.pop(i) -/
def popR (o v : Vl) (m : Mem) : Res Vl :=
  match o, v with
  | .loc l, .d (.int k) => (match m[l]? with
    | some (.lst xs) => (match L2.ixN xs.length k with
      | some j => (match xs[j]? with
        | some d => if smallI k then .ok (.d d) (m.set l (.lst (xs.eraseIdx j))) else .stk
        | none => .stk)
      | none => .stk)
    | _ => .stk)
  | _, _ => .stk
def okKey : PyData → Bool
  | .int _ => true
  | .str _ => true
  | _ => false
def eqKey : PyData → PyData → Bool
  | .int i, .int j => i == j
  | .str x, .str y => x == y
  | _, _ => false
/-- d[k] = v among pairs -/
def putD (kvs : List (PyData × PyData)) (k v : PyData) : List (PyData × PyData) :=
  if (kvs.any fun p => eqKey p.1 k) = true then kvs.map (fun p => if eqKey p.1 k = true then (p.1, v) else p) else kvs ++ [(k, v)]
def dispD : List PyData → List PyData → List (PyData × PyData) → Option (List (PyData × PyData))
  | [], [], acc => some acc
  | k :: ks, v :: vs, acc => if okKey k then dispD ks vs (putD acc k v) else none
  | _, _, _ => none

def CHT.den (x : Str) : CHT → Bool
  | .is1 _ acc => acc.contains x
  | .isN _ acc => acc.contains x
  | .not_ t => !t.den x
  | .and_ a b => a.den x && b.den x
def CHV.den (x : Exn) : CHV → PyData
  | .str z => .str z
  | .int i => .int i
  | .fld f => (x.fs.lookup f).getD .none
  | .pair a b => .tuple [a.den x, b.den x]
  | .tst t => .bool (t.den x.cls)
  | .ifx t a b => match t.den x.cls with
    | true => a.den x
    | false => b.den x
/-- its fields are there -/
def CHV.ok (x : Exn) : CHV → Bool
  | .str _ => true
  | .int _ => true
  | .fld f => (x.fs.lookup f).isSome
  | .pair a b => a.ok x && b.ok x
  | .tst _ => true
  | .ifx t a b => match t.den x.cls with
    | true => a.ok x
    | false => b.ok x
def denH (x : Exn) : List CH → Sl → Mem → Res (Fl × Sl)
  | [], env, m => .ok (.nx, env) m
  | .ret v :: _, env, m => match v.ok x with
    | true => .ok (.ret (.d (v.den x)), env) m
    | false => .stk
  | .set i v :: r, env, m => match v.ok x with
    | true => denH x r (env.set i (some (.d (v.den x)))) m
    | false => .stk
  | .ifret t v :: r, env, m => match t.den x.cls with
    | true => (match v.ok x with
      | true => .ok (.ret (.d (v.den x)), env) m
      | false => .stk)
    | false => denH x r env m
/-- what may be taken apart -/
def seqOf : PyData → Option (List PyData)
  | .list xs => some xs
  | .tuple xs => some xs
  | _ => none
/-- the table stands at the first place -/
def tabAt (q : Str) (m : Mem) : Bool := match (m[0]? : Option Ob) with
  | some (.tab q') => decide (q' = q)
  | _ => false
/-- calls from two frames further down -/
def down (call : CallT) : CallT := fun g args m => call (g + 1000) args m
/-- what x(lambda: ..) gives -/
@[reducible] def lamR (l : LamD) (r : Res Vl) : Res Vl := match r with
  | .ok _ m1 => .ok (.d (.str l.told)) m1
  | .err x m1 => if l.known.contains x.cls && l.acc.contains x.cls then (match denH x l.h [none, none] m1 with
    | .ok (.ret v, _) m2 => .ok v m2
    | _ => .stk) else .stk
  | .stk => .stk
mutual
noncomputable def denE (call : CallT) : CE → Sl → Mem → Res Vl
  | .var i, env, m => (match env[i]? with
    | some (some v) => .ok v m
    | _ => .stk)
  | .cst d, _, m => .ok (.d d) m
  | .gk _ d, _, m => .ok (.d d) m
  | .bin o a b, env, m => (denE call a env m).bind fun x m1 => (denE call b env m1).bind fun y m2 => rdd x m2 fun p => rdd y m2 fun q => dat (binP o p q) m2
  | .neg a, env, m => (denE call a env m).bind fun x m1 => (match x with
    | .d (.int i) => .ok (.d (.int (-i))) m1
    | _ => .stk)
  | .not_ a, env, m => (denE call a env m).bind fun x m1 => (match x with
    | .d (.bool b) => .ok (.d (.bool (!b))) m1
    | _ => .stk)
  | .and_ es, env, m => denAnd call es env m
  | .or_ es, env, m => denOr call es env m
  | .cmp o a b, env, m => (denE call a env m).bind fun x m1 => (denE call b env m1).bind fun y m2 => rdd x m2 fun p => rdd y m2 fun q => bol (cmpP o p q) m2
  | .cmp2 o1 o2 a b c, env, m => (denE call a env m).bind fun x m1 => (denE call b env m1).bind fun y m2 => rdd x m2 fun p => rdd y m2 fun q =>
      (match cmpP o1 p q with
      | some true => (denE call c env m2).bind fun z m3 => rdd y m3 fun q => rdd z m3 fun r => bol (cmpP o2 q r) m3
      | some false => .ok (.d (.bool false)) m2
      | none => .stk)
  | .ifx c a b, env, m => (denT call c env m).bind fun t m1 => (match t with
    | true => denE call a env m1
    | false => denE call b env m1)
  | .tup es, env, m => (denEs call es env m).bind fun vs m1 => (match dats vs with
    | some ds => if ds.length ≤ sizeLine then .ok (.d (.tuple ds)) m1 else .stk
    | none => .stk)
  | .lst own es, env, m => (denEs call es env m).bind fun vs m1 => (match dats vs with
    | some ds => if ds.length ≤ sizeLine then mkL own ds m1 else .stk
    | none => .stk)
  | .dct own ks vs, env, m => (denEs call vs env (m ++ [.dct []])).bind fun us m2 => (match dats us with
    | some ds => (match m2[m.length]?, dispD ks ds [] with
      | some (.dct []), some kvs => if ks.length ≤ 15 then closeC own m.length (.loc m.length) (m2.set m.length (.dct kvs)) else .stk
      | _, _ => .stk)
    | none => .stk)
  | .ix a i, env, m => (denE call a env m).bind fun x m1 => (denE call i env m1).bind fun y m2 => rdd x m2 fun p => rdd y m2 fun q => dat (ixP p q) m2
  | .sl a lo hi, env, m => (denE call a env m).bind fun x m1 => (denO call lo env m1).bind fun l m2 => (denO call hi env m2).bind fun h m3 => rdd x m3 fun p => dat (slP p l h) m3
  | .rev a k, env, m => (denE call a env m).bind fun x m1 => (denE call k env m1).bind fun y m2 => if isM1 y then rdd x m2 fun p => dat (revP p) m2 else .stk
  | .lstC a, env, m => (denE call a env m).bind fun x m1 => rdd x m1 fun p => (match seqOf p with
    | some ds => mkL true ds m1
    | none => .stk)
  | .lstR own a, env, m => (denE call a env m).bind fun x m1 => (match x with
    | .d (.int i) => if lrOk i then mkL own (rngL 0 i) m1 else .stk
    | _ => .stk)
  | .repO a b, env, m => (denE call a env m).bind fun x m1 => (denE call b env m1).bind fun y m2 => rdd x m2 fun p => rdd y m2 fun q => (match p, q with
    | .list xs, .int k => if repOk xs.length k then mkL true (repL xs k) m2 else .stk
    | _, _ => .stk)
  | .popA o i, env, m => (denE call o env m).bind fun ov m1 => (match isL ov m1 with
    | true => (denE call i env m1).bind fun v m2 => popR ov v m2
    | false => .stk)
  | .call g _ es, env, m => (denEs call es env m).bind fun vs m1 => call g vs m1
  | .callD g _ es ds, env, m => (denEs call es env m).bind fun vs m1 => call g (vs ++ ds.map .d) m1
  | .callK g _ es _ ks, env, m => (denEs call es env m).bind fun vs m1 => (denEs call ks env m1).bind fun us m2 => call g (vs ++ us) m2
  | .inK neg a _ ks, env, m => (denE call a env m).bind fun x m1 => (match x with
    | .d (.str z) => .ok (.d (.bool (if neg then !ks.contains z else ks.contains z))) m1
    | _ => .stk)
  | .bi b es, env, m => (denEs call es env m).bind fun vs m1 => (match rds m1 vs with
    | some ds => dat (biP b ds) m1
    | none => .stk)
  | .lam l q e, env, m => if tabAt q m then (call 1999 [] m).bindN fun _ _ => lamR l (denE (down call) e env m) else .stk
  | .isi a t, env, m => (denE call a env m).bind fun x m1 => rdd x m1 fun p => .ok (.d (.bool (isP t p))) m1
  | .lc own t _ src c e, env, m => (denI call src env m).bind fun its m1 => (lcLoop its.src t m1.length (denTAnd call c) (denE call e) its.items env (m1 ++ [.lst []])).bind fun _ m2 => closeC own m1.length (.loc m1.length) m2
noncomputable def denT (call : CallT) : CT → Sl → Mem → Res Bool
  | .v e, env, m => (denE call e env m).bind fun v m1 => rdd v m1 fun x => (match truP x with
    | some b => .ok b m1
    | none => .stk)
  | .and_ ts, env, m => denTAnd call ts env m
  | .or_ ts, env, m => denTOr call ts env m
  | .not_ a, env, m => (denT call a env m).bind fun b m1 => .ok (!b) m1
noncomputable def denTAnd (call : CallT) : CTs → Sl → Mem → Res Bool
  | .nil, _, m => .ok true m
  | .cons e r, env, m => (denT call e env m).bind fun b m1 => (match b with
    | true => denTAnd call r env m1
    | false => .ok false m1)
noncomputable def denTOr (call : CallT) : CTs → Sl → Mem → Res Bool
  | .nil, _, m => .ok false m
  | .cons e r, env, m => (denT call e env m).bind fun b m1 => (match b with
    | true => .ok true m1
    | false => denTOr call r env m1)
/-- of truths alone: the last one's value may be anything -/
noncomputable def denAnd (call : CallT) : CEs → Sl → Mem → Res Vl
  | .nil, _, m => .stk
  | .cons e r, env, m => (match r with
    | .nil => denE call e env m
    | .cons _ _ => (denE call e env m).bind fun v m1 => (match v with
      | .d (.bool true) => denAnd call r env m1
      | .d (.bool false) => .ok (.d (.bool false)) m1
      | _ => .stk))
noncomputable def denOr (call : CallT) : CEs → Sl → Mem → Res Vl
  | .nil, _, m => .stk
  | .cons e r, env, m => (match r with
    | .nil => denE call e env m
    | .cons _ _ => (denE call e env m).bind fun v m1 => (match v with
      | .d (.bool true) => .ok (.d (.bool true)) m1
      | .d (.bool false) => denOr call r env m1
      | _ => .stk))
noncomputable def denEs (call : CallT) : CEs → Sl → Mem → Res (List Vl)
  | .nil, _, m => .ok [] m
  | .cons e r, env, m => (denE call e env m).bind fun v m1 => (denEs call r env m1).bind fun vs m2 => .ok (v :: vs) m2
noncomputable def denO (call : CallT) : CO → Sl → Mem → Res (Option Int)
  | .no, _, m => .ok none m
  | .so e, env, m => (denE call e env m).bind fun v m1 => (match v with
    | .d (.int i) => .ok (some i) m1
    | _ => .stk)
noncomputable def denI (call : CallT) : CI → Sl → Mem → Res Its
  | .e c, env, m => (denE call c env m).bind fun v m1 => itsOf v m1
  | .rng1 c, env, m => (denE call c env m).bind fun v m1 => (match v with
    | .d (.int i) => if rngOk i then .ok ⟨rngL 0 i, []⟩ m1 else .stk
    | _ => .stk)
  | .rng2 a b, env, m => (denE call a env m).bind fun v m1 => (denE call b env m1).bind fun u m2 => (match v, u with
    | .d (.int i), .d (.int j) => if rngOk i && rngOk j then .ok ⟨rngL i j, []⟩ m2 else .stk
    | _, _ => .stk)
  | .zip es, env, m => (denEs call es env m).bind fun vs m1 => (itsAll vs m1).bind fun is m2 => .ok ⟨zipD (is.map Its.items), (is.map Its.src).flatten⟩ m2
  | .enum c, env, m => (denE call c env m).bind fun v m1 => (itsOf v m1).bind fun is m2 => .ok ⟨enumD is.items, is.src⟩ m2
end
/-- several slots at once -/
def setAll (env : Sl) : List Nat → List PyData → Sl
  | i :: is, d :: ds => setAll (env.set i (some (.d d))) is ds
  | _, _ => env
mutual
noncomputable def denS (call : CallT) : CS → Sl → Mem → Res (Fl × Sl)
  | .set i e, env, m => (denE call e env m).bind fun v m1 => .ok (.nx, env.set i (some v)) m1
  | .setix o i e, env, m => (denE call e env m).bind fun v m1 => (denE call o env m1).bind fun ov m2 => (denE call i env m2).bind fun iv m3 => (match setIx ov iv v m3 with
    | some m4 => .ok (.nx, env) m4
    | none => .stk)
  | .ret e, env, m => (denE call e env m).bind fun v m1 => .ok (.ret v, env) m1
  | .expr e, env, m => (denE call e env m).bind fun _ m1 => .ok (.nx, env) m1
  | .iff c t f, env, m => (denT call c env m).bind fun b m1 => (match b with
    | true => denSs call t env m1
    | false => denSs call f env m1)
  | .for_ t s b, env, m => (denI call s env m).bind fun its m1 => forLoop its.src t (denSs call b) its.items env m1
  | .while_ n c b, env, m => whLoop (denT call c) (denSs call b) n env m
  | .aug i neg e, env, m => (match env[i]? with
    | some (some (.d (.int x))) => (denE call e env m).bind fun v m1 => (match v with
      | .d (.int y) => .ok (.nx, env.set i (some (.d (.int (if neg then x - y else x + y))))) m1
      | _ => .stk)
    | _ => .stk)
  | .pass, env, m => .ok (.nx, env) m
  | .raise_ x _, _, m => .err ⟨x, []⟩ m
  | .raiseF x f e, env, m => (call 1999 [] m).bindN fun _ _ => (denE call e env m).bind fun v m1 => (match v with
    | .d d => .err ⟨x, [(f, d)]⟩ m1
    | .loc _ => .stk)
  | .setSt is j e, env, m => (denE call e env m).bind fun v m1 => rdd v m1 fun p => (match seqOf p with
    | some ds => if is.length ≤ ds.length then .ok (.nx, (setAll env is (ds.take is.length)).set j (some (.d (.list (ds.drop is.length))))) m1 else .stk
    | none => .stk)
  | .setP i j a b, env, m => (denE call a env m).bind fun v m1 => (denE call b env m1).bind fun u m2 => .ok (.nx, (env.set i (some v)).set j (some u)) m2
  | .app o e, env, m => (denE call o env m).bind fun ov m1 => (match isL ov m1 with
    | true => (denE call e env m1).bind fun v m2 => (match apIx ov v m2 with
      | some m3 => .ok (.nx, env) m3
      | none => .stk)
    | false => .stk)
  | .setT is e, env, m => (denE call e env m).bind fun v m1 => rdd v m1 fun p => (match seqOf p with
    | some ds => if ds.length = is.length then .ok (.nx, setAll env is ds) m1 else .stk
    | none => .stk)
  | .try_ b _ known acc i h, env, m => (match denS call b env m with
    | .ok q m1 => .ok q m1
    | .err e m1 => if known.contains e.cls then (if acc.contains e.cls then (denH e h (env.set i none) m1).bind fun q m2 => .ok (q.1, q.2.set i none) m2 else .err e m1) else .stk
    | .stk => .stk)
noncomputable def denSs (call : CallT) : CSs → Sl → Mem → Res (Fl × Sl)
  | .nil, env, m => .ok (.nx, env) m
  | .cons s r, env, m => (denS call s env m).bind fun q m1 => (match q with
    | (.nx, env1) => denSs call r env1 m1
    | q => .ok q m1)
  | .op i _ tb w j es r, env, m => (denE call w env m).bind fun v m1 => (match v with
    | .d (.str z) => (match tb.lookup z with
      | some g => (denEs call es (env.set i none) m1).bind fun vs m2 => (call g vs m2).bind fun u m3 => denSs call r ((env.set i none).set j (some u)) m3
      | none => .stk)
    | _ => .stk)
  | .opA i _ tb w o es r, env, m => (denE call w env m).bind fun v m1 => (match v with
    | .d (.str z) => (match tb.lookup z with
      | some g => (denE call o (env.set i none) m1).bind fun ov m2 => (match isL ov m2 with
        | true => (denEs call es (env.set i none) m2).bind fun vs m3 => (call g vs m3).bind fun u m4 => (match apIx ov u m4 with
          | some m5 => denSs call r (env.set i none) m5
          | none => .stk)
        | false => .stk)
      | none => .stk)
    | _ => .stk)
end

/-! ### functions -/
structure Fd where
  name : Str
  ps : Nat
  kw : List (Str × PyData) := []
  N : List Str
  body : CSs
  keep : Bool
  lam : Bool := false
def flV : Fl → Option Vl
  | .nx => some (.d .none)
  | .ret v => some v
  | _ => none
noncomputable def callN (T : List Fd) : Nat → CallT
  | 0, _, _, _ => .stk
  | n + 1, g, args, m => match T[g]? with
    | none => if g = 999 then .ok (.d .none) m else if 1000 ≤ g then (match n with
      | 0 => .stk
      | n' + 1 => callN T n' (g - 1000) args m) else .stk
    | some f => if args.length = f.ps then
        (denSs (callN T n) f.body (args.map some ++ List.replicate (f.N.length - args.length) none) m).bind fun q m1 => (match flV q.1 with
          | some v => closeC f.keep m.length v m1
          | none => .stk)
      else .stk
example (call : CallT) (m : Mem) : denSs call (.cons (.ret (.bin .Add (.cst (.int 1)) (.cst (.int 2)))) .nil) [] m = .ok (.ret (.d (.int 3)), []) m := rfl
end Ev

/-! Ev: how data and memory stand in the abstract heap; readings of outcomes. -/
namespace Ev
open PySem PySem.Spec PyProof.Rows L2
abbrev St := L2.St
set_option autoImplicit false

/-- a list of the written part -/
abbrev WL (K : PySem.W.Frag) (a : Addr) (xs : List V) : Prop := SqL K (fun _ => none) a xs
abbrev WT (K : PySem.W.Frag) (a : Addr) (xs : List V) : Prop := SqT K (fun _ => none) a xs
theorem WL.sq {K : PySem.W.Frag} {a : Addr} {xs : List V} {H : Hp} (h : WL K a xs) : SqL K H a xs := by
  rcases h with (h | ⟨o, h⟩) | h
  · cases h
  · cases h
  · exact .inr h
theorem WT.sq {K : PySem.W.Frag} {a : Addr} {xs : List V} {H : Hp} (h : WT K a xs) : SqT K H a xs := by
  rcases h with (h | ⟨o, h⟩) | h
  · cases h
  · cases h
  · exact .inr h
theorem sqL_split {K : PySem.W.Frag} {a : Addr} {xs : List V} {H : Hp} (h : SqL K H a xs) : Rd H a (.lst xs) ∨ WL K a xs := by
  rcases h with h | h
  · exact .inl h
  · exact .inr (.inr h)
theorem sqT_split {K : PySem.W.Frag} {a : Addr} {xs : List V} {H : Hp} (h : SqT K H a xs) : Rd H a (.tup xs) ∨ WT K a xs := by
  rcases h with h | h
  · exact .inl h
  · exact .inr (.inr h)

/-- a key of a dict, as data -/
def kD : Key → PyData
  | .inl i => .int i
  | .inr x => .str x

mutual
inductive DR (K : PySem.W.Frag) (H : Hp) (ρ : List Addr) : PyData → V → Prop
  | non : DR K H ρ .none .non
  | bl (b : Bool) : DR K H ρ (.bool b) (.bl b)
  | int (i : Int) : DR K H ρ (.int i) (.int i)
  | str (x : Str) : DR K H ρ (.str x) (.str x)
  | lst {a : Addr} {vs : List V} {ds : List PyData} : ((Rd H a (.lst vs) ∧ a ∉ ρ) ∨ WL K a vs) → DRs K H ρ ds vs → DR K H ρ (.list ds) (.ref a)
  | tup {a : Addr} {vs : List V} {ds : List PyData} : ((Rd H a (.tup vs) ∧ a ∉ ρ) ∨ WT K a vs) → DRs K H ρ ds vs → DR K H ρ (.tuple ds) (.ref a)
  | dct {a : Addr} {ks : List (Key × V)} {ps : List (PyData × PyData)} : Rd H a (.dK ks) → a ∉ ρ → DKs K H ρ ps ks → DR K H ρ (.dict ps) (.ref a)
inductive DRs (K : PySem.W.Frag) (H : Hp) (ρ : List Addr) : List PyData → List V → Prop
  | nil : DRs K H ρ [] []
  | cons {d : PyData} {v : V} {ds : List PyData} {vs : List V} : DR K H ρ d v → DRs K H ρ ds vs → DRs K H ρ (d :: ds) (v :: vs)
inductive DKs (K : PySem.W.Frag) (H : Hp) (ρ : List Addr) : List (PyData × PyData) → List (Key × V) → Prop
  | nil : DKs K H ρ [] []
  | cons {k : Key} {d : PyData} {v : V} {ps : List (PyData × PyData)} {ks : List (Key × V)} : DR K H ρ d v → DKs K H ρ ps ks → DKs K H ρ ((kD k, d) :: ps) ((k, v) :: ks)
end

/-- what isn't owned stays; what is owned may have changed, more may be owned -/
structure Ext (H : Hp) (ρ : List Addr) (H' : Hp) (ρ' : List Addr) : Prop where
  pre : ∃ τ, ρ' = ρ ++ τ
  keep : ∀ a o, H a = some o → a ∉ ρ → (∀ ps, o ≠ .tbl ps) → H' a = some o ∧ a ∉ ρ'
theorem Ext.refl (H : Hp) (ρ : List Addr) : Ext H ρ H ρ := ⟨⟨[], by simp⟩, fun _ _ h n _ => ⟨h, n⟩⟩
theorem Ext.trans {H H1 H2 : Hp} {ρ ρ1 ρ2 : List Addr} (a : Ext H ρ H1 ρ1) (b : Ext H1 ρ1 H2 ρ2) : Ext H ρ H2 ρ2 := by
  obtain ⟨t1, e1⟩ := a.pre
  obtain ⟨t2, e2⟩ := b.pre
  refine ⟨⟨t1 ++ t2, by rw [e2, e1, List.append_assoc]⟩, fun c o h n t => ?_⟩
  obtain ⟨h1, n1⟩ := a.keep c o h n t
  exact b.keep c o h1 n1 t
theorem Ext.rd {H H' : Hp} {ρ ρ' : List Addr} {a : Addr} {o : HO} (e : Ext H ρ H' ρ') (h : Rd H a o) (n : a ∉ ρ) (t : ∀ ps, o ≠ .tbl ps) : Rd H' a o ∧ a ∉ ρ' := by
  rcases h with h | ⟨u, h⟩
  · exact ⟨.inl (e.keep a _ h n t).1, (e.keep a _ h n t).2⟩
  · exact ⟨.inr ⟨u, (e.keep a _ h n (fun _ z => by cases z)).1⟩, (e.keep a _ h n (fun _ z => by cases z)).2⟩

section
variable {K : PySem.W.Frag} {H H' : Hp} {ρ ρ' : List Addr}
mutual
theorem DR.ext (e : Ext H ρ H' ρ') : ∀ {d : PyData} {v : V}, DR K H ρ d v → DR K H' ρ' d v
  | _, _, .non => .non
  | _, _, .bl b => .bl b
  | _, _, .int i => .int i
  | _, _, .str x => .str x
  | _, _, .lst h hs => .lst (h.imp (fun ⟨r, n⟩ => e.rd r n (fun _ z => by cases z)) id) (DRs.ext e hs)
  | _, _, .tup h hs => .tup (h.imp (fun ⟨r, n⟩ => e.rd r n (fun _ z => by cases z)) id) (DRs.ext e hs)
  | _, _, .dct h n hs =>   .dct (e.rd h n (fun _ z => by cases z)).1 (e.rd h n (fun _ z => by cases z)).2 (DKs.ext e hs)
theorem DRs.ext (e : Ext H ρ H' ρ') : ∀ {ds : List PyData} {vs : List V}, DRs K H ρ ds vs → DRs K H' ρ' ds vs
  | _, _, .nil => .nil
  | _, _, .cons h t => .cons (DR.ext e h) (DRs.ext e t)
theorem DKs.ext (e : Ext H ρ H' ρ') : ∀ {ps : List (PyData × PyData)} {ks : List (Key × V)}, DKs K H ρ ps ks → DKs K H' ρ' ps ks
  | _, _, .nil => .nil
  | _, _, .cons h t => .cons (DR.ext e h) (DKs.ext e t)
end
theorem DRs.length : ∀ {ds : List PyData} {vs : List V}, DRs K H ρ ds vs → ds.length = vs.length
  | _, _, .nil => rfl
  | _, _, .cons _ t => congrArg Nat.succ t.length
theorem DRs.get : ∀ {ds : List PyData} {vs : List V} {i : Nat} {d : PyData}, DRs K H ρ ds vs → ds[i]? = some d → ∃ v, vs[i]? = some v ∧ DR K H ρ d v
  | _, _, _, _, .nil, e => by simp at e
  | _, _, 0, _, .cons h _, e => by simp at e; subst e; exact ⟨_, rfl, h⟩
  | _, _, i + 1, d, .cons _ t, e => by
    obtain ⟨v, h1, h2⟩ := DRs.get (i := i) (d := d) t (by simpa using e)
    exact ⟨v, by simpa using h1, h2⟩
theorem DRs.getV : ∀ {ds : List PyData} {vs : List V} {i : Nat} {v : V}, DRs K H ρ ds vs → vs[i]? = some v → ∃ d, ds[i]? = some d ∧ DR K H ρ d v
  | _, _, _, _, .nil, e => by simp at e
  | _, _, 0, _, .cons h _, e => by simp at e; subst e; exact ⟨_, rfl, h⟩
  | _, _, i + 1, v, .cons _ t, e => by
    obtain ⟨d, h1, h2⟩ := DRs.getV (i := i) (v := v) t (by simpa using e)
    exact ⟨d, by simpa using h1, h2⟩
theorem DRs.append : ∀ {ds es : List PyData} {vs us : List V}, DRs K H ρ ds vs → DRs K H ρ es us → DRs K H ρ (ds ++ es) (vs ++ us)
  | _, _, _, _, .nil, s => s
  | _, _, _, _, .cons h t, s => .cons h (DRs.append t s)
theorem DRs.take : ∀ {ds : List PyData} {vs : List V} (n : Nat), DRs K H ρ ds vs → DRs K H ρ (ds.take n) (vs.take n)
  | _, _, 0, _ => .nil
  | _, _, _ + 1, .nil => .nil
  | _, _, n + 1, .cons h t => .cons h (DRs.take n t)
theorem DRs.drop : ∀ {ds : List PyData} {vs : List V} (n : Nat), DRs K H ρ ds vs → DRs K H ρ (ds.drop n) (vs.drop n)
  | _, _, 0, h => h
  | _, _, _ + 1, .nil => .nil
  | _, _, n + 1, .cons _ t => DRs.drop n t
theorem DRs.set : ∀ {ds : List PyData} {vs : List V} (i : Nat) {d : PyData} {v : V}, DRs K H ρ ds vs → DR K H ρ d v → DRs K H ρ (ds.set i d) (vs.set i v)
  | _, _, _, _, _, .nil, _ => .nil
  | _, _, 0, _, _, .cons _ t, r => .cons r t
  | _, _, i + 1, _, _, .cons h t, r => .cons h (DRs.set i t r)
theorem DRs.rep {ds : List PyData} {vs : List V} (h : DRs K H ρ ds vs) : ∀ k : Nat, DRs K H ρ (List.replicate k ds).flatten (List.replicate k vs).flatten
  | 0 => .nil
  | k + 1 => by
    rw [List.replicate_succ, List.replicate_succ, List.flatten_cons, List.flatten_cons]
    exact h.append (h.rep k)
end

/-- a value's -/
def VR (K : PySem.W.Frag) (H : Hp) (ρ : List Addr) : Vl → V → Prop
  | .d x, v => DR K H ρ x v
  | .loc l, v => ∃ a, v = .ref a ∧ ρ[l]? = some a
inductive VRs (K : PySem.W.Frag) (H : Hp) (ρ : List Addr) : List Vl → List V → Prop
  | nil : VRs K H ρ [] []
  | cons {u : Vl} {v : V} {us : List Vl} {vs : List V} : VR K H ρ u v → VRs K H ρ us vs → VRs K H ρ (u :: us) (v :: vs)
/-- a thing's (classes come later) -/
def ObR (K : PySem.W.Frag) (H : Hp) (ρ : List Addr) (a : Addr) : Ob → Prop
  | .lst xs => ∃ vs, H a = some (.lst vs) ∧ DRs K H ρ xs vs
  | .dct ps => ∃ ks, H a = some (.dK ks) ∧ DKs K H ρ ps ks
  | .ins _ _ => False
  | .tab q => a = (He.cT K ("law", none)).2 ∧ ∃ ps, H a = some (.tbl ps) ∧ TriplesOk ps.toList ∧ ∀ (pos : Pos) (cv : Value), codeAmong pos ps.toList = some cv → ∃ c, cv = .ref c ∧ H c = some (LamX.CodeO c q) ∧ c ∉ ρ
structure MR (K : PySem.W.Frag) (H : Hp) (ρ : List Addr) (m : Mem) : Prop where
  len : m.length = ρ.length
  nd : ρ.Nodup
  ob : ∀ (l : Nat) (o : Ob) (a : Addr), m[l]? = some o → ρ[l]? = some a → ObR K H ρ a o
/-- the def's names -/
structure EnvR (K : PySem.W.Frag) (H : Hp) (ρ : List Addr) (env : Sl) (σ : St) : Prop where
  len : env.length = σ.length
  at_ : ∀ (i : Nat) (v : Vl), env[i]? = some (some v) → ∃ x, σ[i]? = some (some x) ∧ VR K H ρ v x

section
variable {K : PySem.W.Frag} {H H' : Hp} {ρ ρ' : List Addr} {m : Mem}
theorem VR.ext (e : Ext H ρ H' ρ') {u : Vl} {v : V} (h : VR K H ρ u v) : VR K H' ρ' u v := by
  cases u with
  | d x => exact DR.ext e h
  | loc l =>
    obtain ⟨a, rfl, h⟩ := h
    obtain ⟨t, rfl⟩ := e.pre
    exact ⟨a, rfl, by rw [List.getElem?_append_left (by have := (List.getElem?_eq_some_iff.mp h).1; exact this)]; exact h⟩
theorem VRs.ext (e : Ext H ρ H' ρ') : ∀ {us : List Vl} {vs : List V}, VRs K H ρ us vs → VRs K H' ρ' us vs
  | _, _, .nil => .nil
  | _, _, .cons h t => .cons (h.ext e) (t.ext e)
theorem VRs.length : ∀ {us : List Vl} {vs : List V}, VRs K H ρ us vs → us.length = vs.length
  | _, _, .nil => rfl
  | _, _, .cons _ t => congrArg Nat.succ t.length
theorem EnvR.ext (e : Ext H ρ H' ρ') {env : Sl} {σ : St} (h : EnvR K H ρ env σ) : EnvR K H' ρ' env σ :=
  ⟨h.len, fun i v q => let ⟨x, h1, h2⟩ := h.at_ i v q; ⟨x, h1, h2.ext e⟩⟩
theorem EnvR.set {env : Sl} {σ : St} (h : EnvR K H ρ env σ) (i : Nat) {v : Vl} {x : V} (r : VR K H ρ v x) : EnvR K H ρ (env.set i (some v)) (σ.set i (some x)) := by
  refine ⟨by rw [List.length_set, List.length_set]; exact h.len, fun j u q => ?_⟩
  by_cases e : i = j
  · subst e
    by_cases hi : i < env.length
    · rw [List.getElem?_set_self hi] at q
      cases q
      exact ⟨x, List.getElem?_set_self (by rw [← h.len]; exact hi), r⟩
    · rw [List.getElem?_eq_none (by rw [List.length_set]; omega)] at q
      cases q
  · rw [List.getElem?_set_ne e] at q
    obtain ⟨y, h1, h2⟩ := h.at_ j u q
    exact ⟨y, by rw [List.getElem?_set_ne e]; exact h1, h2⟩
/-- what is owned is there -/
theorem MR.there (M : MR K H ρ m) {a : Addr} (h : a ∈ ρ) : ∃ o, H a = some o := by
  obtain ⟨l, hl⟩ := List.mem_iff_getElem?.mp h
  have hlt : l < m.length := by rw [M.len]; exact (List.getElem?_eq_some_iff.mp hl).1
  have q := M.ob l m[l] a (List.getElem?_eq_getElem hlt) hl
  cases e : m[l] with
  | lst xs => rw [e] at q; obtain ⟨vs, h1, _⟩ := q; exact ⟨_, h1⟩
  | dct ps => rw [e] at q; obtain ⟨vs, h1, _⟩ := q; exact ⟨_, h1⟩
  | ins c fs => rw [e] at q; exact q.elim
  | tab t => rw [e] at q; obtain ⟨_, vs, h1, _⟩ := q; exact ⟨_, h1⟩
/-- a heap in which all stands that stood -/
theorem MR.fresh (M : MR K H ρ m) {p : Addr} (h : H p = none) : p ∉ ρ := fun hp => by
  obtain ⟨o, q⟩ := M.there hp
  rw [h] at q
  cases q
theorem sext (s : Same H H') : Ext H ρ H' ρ := ⟨⟨[], by simp⟩, fun a o h n _ => ⟨s a o h, n⟩⟩
theorem ObR.ext (e : Ext H ρ H' ρ') {a : Addr} {o : Ob} (k : ∀ u, H a = some u → H' a = some u) (h : ObR K H ρ a o) : ObR K H' ρ' a o := by
  cases o with
  | lst xs => obtain ⟨vs, h1, h2⟩ := h; exact ⟨vs, k _ h1, h2.ext e⟩
  | dct ps => obtain ⟨vs, h1, h2⟩ := h; exact ⟨vs, k _ h1, h2.ext e⟩
  | ins c fs => exact h
  | tab t =>
    obtain ⟨h0, ps, h1, h2, h3⟩ := h
    refine ⟨h0, ps, k _ h1, h2, fun pos cv hc => ?_⟩
    obtain ⟨c, e1, e2, e3⟩ := h3 pos cv hc
    obtain ⟨q1, q2⟩ := e.keep c _ e2 e3 (fun _ => LamX.codeO_ne _)
    exact ⟨c, e1, q1, q2⟩
theorem MR.same (M : MR K H ρ m) (s : Same H H') : MR K H' ρ m :=
  ⟨M.len, M.nd, fun l o a h1 h2 => (M.ob l o a h1 h2).ext (sext s) (fun u h => s a u h)⟩
theorem same_upd {p : Addr} {o : HO} (h : H p = none) : Same H (upd H p o) := fun b u q => by rw [upd_ne (ne_of_none q h)]; exact q
/-- a new thing is owned -/
theorem MR.push (M : MR K H ρ m) {p : Addr} {o : HO} {ob : Ob} (h : H p = none) (r : ObR K (upd H p o) (ρ ++ [p]) p ob) : MR K (upd H p o) (ρ ++ [p]) (m ++ [ob]) ∧ Ext H ρ (upd H p o) (ρ ++ [p]) := by
  have np := M.fresh h
  have ex : Ext H ρ (upd H p o) (ρ ++ [p]) := ⟨⟨[p], rfl⟩, fun a u q n _ => ⟨same_upd h a u q, by
    rw [List.mem_append, List.mem_singleton]
    rintro (z | z)
    · exact n z
    · exact ne_of_none q h z⟩⟩
  refine ⟨⟨by simp [M.len], ?_, fun l ob' a h1 h2 => ?_⟩, ex⟩
  · rw [List.nodup_append]
    exact ⟨M.nd, by simp, fun a ha b hb => by rw [List.mem_singleton] at hb; subst hb; exact fun z => np (z ▸ ha)⟩
  · by_cases hl : l < m.length
    · rw [List.getElem?_append_left hl] at h1
      rw [List.getElem?_append_left (by rw [← M.len]; exact hl)] at h2
      exact (M.ob l ob' a h1 h2).ext ex (fun u q => same_upd h a u q)
    · have e : l = m.length := by
        have := (List.getElem?_eq_some_iff.mp h1).1
        simp at this
        omega
      subst e
      rw [List.getElem?_append_right (Nat.le_refl _)] at h1
      rw [M.len, List.getElem?_append_right (Nat.le_refl _)] at h2
      simp at h1 h2
      subst h1 h2
      exact r
/-- an owned thing is changed -/
theorem MR.put (M : MR K H ρ m) {l : Nat} {a : Addr} {o : HO} {ob : Ob} (hl : ρ[l]? = some a) (r : ObR K (upd H a o) ρ a ob) : MR K (upd H a o) ρ (m.set l ob) ∧ Ext H ρ (upd H a o) ρ := by
  have ex : Ext H ρ (upd H a o) ρ := ⟨⟨[], by simp⟩, fun b u q n _ => ⟨by
    have nb : b ≠ a := fun z => n (by rw [z]; exact List.mem_of_getElem? hl)
    rw [upd_ne nb]
    exact q, n⟩⟩
  refine ⟨⟨by simp [M.len], M.nd, fun j ob' b h1 h2 => ?_⟩, ex⟩
  by_cases e : l = j
  · subst e
    rw [hl] at h2
    cases h2
    by_cases hi : l < m.length
    · rw [List.getElem?_set_self hi] at h1
      cases h1
      exact r
    · rw [List.getElem?_eq_none (by rw [List.length_set]; omega)] at h1
      cases h1
  · rw [List.getElem?_set_ne e] at h1
    have nb : b ≠ a := fun z => by
      subst z
      have i1 := (List.getElem?_eq_some_iff.mp hl)
      have i2 := (List.getElem?_eq_some_iff.mp h2)
      obtain ⟨p1, q1⟩ := i1
      obtain ⟨p2, q2⟩ := i2
      exact e ((List.getElem_inj M.nd).mp (q1.trans q2.symm))
    exact (M.ob j ob' b h1 h2).ext ex (fun u q => by rw [upd_ne nb]; exact q)

/-- reads as that data now -/
def RDt (K : PySem.W.Frag) (H : Hp) (ρ : List Addr) : PyData → V → Prop
  | .list ds, v => ∃ a vs, v = .ref a ∧ SqL K H a vs ∧ DRs K H ρ ds vs
  | .dict ps, v => ∃ a ks, v = .ref a ∧ Rd H a (.dK ks) ∧ DKs K H ρ ps ks
  | d, v => DR K H ρ d v
theorem DR.rdt {d : PyData} {v : V} (h : DR K H ρ d v) : RDt K H ρ d v := by
  cases h with
  | non => exact .non
  | bl b => exact .bl b
  | int i => exact .int i
  | str x => exact .str x
  | lst h hs => exact ⟨_, _, rfl, h.elim (fun q => .inl q.1) WL.sq, hs⟩
  | tup h hs => exact .tup h hs
  | dct h n hs => exact ⟨_, _, rfl, h, hs⟩
theorem rdt_tup {ds : List PyData} {v : V} (h : RDt K H ρ (.tuple ds) v) : ∃ a vs, v = .ref a ∧ SqT K H a vs ∧ DRs K H ρ ds vs := by
  have h : DR K H ρ (.tuple ds) v := h
  cases h with
  | tup q hs => exact ⟨_, _, rfl, Or.elim q (fun q => .inl q.1) WT.sq, hs⟩
theorem rd_ok (M : MR K H ρ m) {u : Vl} {v : V} {d : PyData} (r : VR K H ρ u v) (h : rd m u = some d) : RDt K H ρ d v := by
  cases u with
  | d x => cases h; exact DR.rdt r
  | loc l =>
    obtain ⟨a, rfl, ha⟩ := r
    unfold rd at h
    cases e : m[l]? with
    | none => simp only [e] at h; cases h
    | some o =>
      have q := M.ob l o a e ha
      simp only [e] at h
      cases o with
      | lst xs => cases h; obtain ⟨vs, h1, h2⟩ := q; exact ⟨a, vs, rfl, .inl (.inl h1), h2⟩
      | dct ps => cases h; obtain ⟨ks, h1, h2⟩ := q; exact ⟨a, ks, rfl, .inl h1, h2⟩
      | ins c fs => cases h
      | tab t => cases h
theorem RDt.ext (s : Same H H') {d : PyData} {v : V} (h : RDt K H ρ d v) : RDt K H' ρ d v := by
  have rd : ∀ {a : Addr} {o : HO}, Rd H a o → Rd H' a o := fun {a o} q => q.imp (s a _) fun ⟨u, q⟩ => ⟨u, s a _ q⟩
  cases d with
  | list ds => obtain ⟨a, vs, rfl, h1, h2⟩ := h; exact ⟨a, vs, rfl, h1.imp rd id, h2.ext (sext s)⟩
  | tuple ds => exact DR.ext (sext s) h
  | dict ps => obtain ⟨a, vs, rfl, h1, h2⟩ := h; exact ⟨a, vs, rfl, rd h1, h2.ext (sext s)⟩
  | none => exact DR.ext (sext s) h
  | bool b => exact DR.ext (sext s) h
  | int i => exact DR.ext (sext s) h
  | str x => exact DR.ext (sext s) h
end

/-- the exception that flies is the one that is meant -/
def FX (K : PySem.W.Frag) (c : Value) (d : Option Addr) (e : Exn) (H : Hp) (ρ : List Addr) : Prop := (d = none ∧ e.fs = []) ∨ ∃ C dd f x v, c = .ref C ∧ XfC K C ∧ PySem.W.findIn K (.ref C) f = some none ∧ d = some dd ∧ e.fs = [(f, x)] ∧ H dd = some (.xd [(f, v)]) ∧ DR K H ρ x v
def XR (K : PySem.W.Frag) (mg : Str → Option Value) (ρ : List Addr) (e : Exn) (c : Value) (od : Option Addr) (H : Hp) : Prop := mg e.cls = some c ∧ FX K c od e H ρ
/-- a wish about what is raised; the same, by the slots -/
abbrev EK := Exn → Mem → Hp → List Addr → Prop
abbrev SK := St → EK
def Z0 : SK := fun _ _ _ _ _ => False
/-- the wish as the layer has it -/
def WK (K : PySem.W.Frag) (mg : Str → Option Value) (E : SK) : WX := fun c d σ H => ∃ e m ρ, XR K mg ρ e c d H ∧ MR K H ρ m ∧ E σ e m H ρ

/-- what is wanted of an outcome -/
def Post {α : Type} (K : PySem.W.Frag) (E : EK) (H : Hp) (ρ : List Addr) (r : Res α) (k : α → Mem → Hp → List Addr → Prop) : Prop :=
  match r with
  | .ok a m => ∀ H' ρ', Ext H ρ H' ρ' → MR K H' ρ' m → k a m H' ρ'
  | .err e m => ∀ H' ρ', Ext H ρ H' ρ' → MR K H' ρ' m → E e m H' ρ'
  | .stk => False
section
variable {α β : Type} {K : PySem.W.Frag} {E : EK} {H H' : Hp} {ρ ρ' : List Addr}
theorem Post.imp {r : Res α} {k k' : α → Mem → Hp → List Addr → Prop} (p : Post K E H ρ r k) (h : ∀ a m H' ρ', Ext H ρ H' ρ' → MR K H' ρ' m → k a m H' ρ' → k' a m H' ρ') : Post K E H ρ r k' := by
  cases r with
  | ok a m => exact fun H' ρ' e M => h a m H' ρ' e M (p H' ρ' e M)
  | err e m => exact p
  | stk => exact p
theorem Post.ext {r : Res α} {k : α → Mem → Hp → List Addr → Prop} (e : Ext H ρ H' ρ') (p : Post K E H ρ r k) : Post K E H' ρ' r k := by
  cases r with
  | ok a m => exact fun H2 ρ2 e2 M => p H2 ρ2 (e.trans e2) M
  | err x m => exact fun H2 ρ2 e2 M => p H2 ρ2 (e.trans e2) M
  | stk => exact p
theorem Post.bind {r : Res α} {f : α → Mem → Res β} {k : β → Mem → Hp → List Addr → Prop} (p : Post K E H ρ (r.bind f) k) :
    Post K E H ρ r fun a m H' ρ' => Post K E H' ρ' (f a m) k := by
  cases r with
  | ok a m => exact fun H' ρ' e M => Post.ext e p
  | err x m => exact p
  | stk => exact p
end
/-- a reading: of an expression, a test, a list of expressions -/
def TD {α β : Type} (R : PySem.W.Frag → Hp → List Addr → α → β → Prop) (K : PySem.W.Frag) (E : SK) (f : Sl → Mem → Res α) : St → Hp → (β → Hp → Prop) → Prop :=
  fun σ H Q => ∃ ρ env m, EnvR K H ρ env σ ∧ MR K H ρ m ∧ Post K (E σ) H ρ (f env m) fun a _ H' ρ' => ∀ x, R K H' ρ' a x → Q x H'
abbrev TDE (K : PySem.W.Frag) (E : SK) (f : Sl → Mem → Res Vl) : TE := TD VR K E f
abbrev TDT (K : PySem.W.Frag) (E : SK) (f : Sl → Mem → Res Bool) : TT := TD (fun _ _ _ (a : Bool) (b : Bool) => a = b) K E f
abbrev TDA (K : PySem.W.Frag) (E : SK) (f : Sl → Mem → Res (List Vl)) : TA := TD VRs K E f
end Ev

set_option maxHeartbeats 4000000
/-! Ev: a list comprehension whose block may let an exception out. -/
namespace Ev
open PySem PySem.Spec PyProof.Rows L2
set_option autoImplicit false

/-- in the air of X, which may stand within a comprehension: L holds the names of the frame -/
def XEL (X : Cx) (L : Addr) (W : WX) (u : Value) (s' : Shared) : Prop :=
  ∃ (a : Addr) (G : Heap) (t : Shared) (pins : List (Addr × Obj)) (σ : St) (H : Hp) (c : Value) (d : Option Addr),
    u = .ref a ∧ Inv X pins σ H t ∧ (∀ b o, t.heap.get? b = some o → b ∉ frs X.stack → G.get? b = some o) ∧ t.heap.UpToSlots s'.heap ∧
      Sky G X.stack a (Zc c d) L s'.heap ∧ H a = none ∧ s'.os = t.os ∧ AllBare s'.gens ∧ W c d σ H
structure TakesL (X : Cx) (W : WX) : Prop where
  ex : ∃ L e0 o0, X.env.frame = some L ∧ X.stack = e0 :: o0 ∧ e0.frame = some L ∧ ∀ u s', XEL X L W u s' → X.xe u s'
theorem TakesL.of {X : Cx} {W : WX} (hs : X.stack = X.env :: X.outer) (hf : X.env.frame = some X.env.locals) (t : Takes X W) : TakesL X W := ⟨_, _, _, hf, hs, hf, fun u s' x => t u s' x⟩
theorem TakesL.to {X : Cx} {W : WX} (hf : X.env.frame = some X.env.locals) (t : TakesL X W) : Takes X W := by
  obtain ⟨L, e0, o0, h1, h2, h3, h4⟩ := t.ex
  rw [hf] at h1
  cases h1
  exact fun u s' x => h4 u s' x
theorem TakesL.imp {X : Cx} {W W' : WX} (t : TakesL X W) (h : ∀ c d σ H, W' c d σ H → W c d σ H) : TakesL X W' := by
  obtain ⟨L, e0, o0, h1, h2, h3, h4⟩ := t.ex
  exact ⟨L, e0, o0, h1, h2, h3, fun u s' ⟨a, G, t, pins, σ, H, c, d, y1, y2, y3, y4, y5, y6, y7, y8, y9⟩ => h4 u s' ⟨a, G, t, pins, σ, H, c, d, y1, y2, y3, y4, y5, y6, y7, y8, h _ _ _ _ y9⟩⟩
/-- what flies flies -/
theorem sky_fly {B B' h : Heap} {l l' : List PySem.Env} {a L : Addr} {Z Z' : Obj → Prop} (f : HandSPX.FlyingZ B l a Z h) (x : Sky B' l' a Z' L h) : HandSPX.FlyingZ B' l' a Z' h := by
  obtain ⟨_, _, _, oe, vs, T, oT, ts, e1, _, e2, e3, _, _, e4, e5, e6⟩ := f
  rcases x with ⟨_, _, _, oe', vs', g1, _, g2, g3⟩ | x | ⟨_, _, _, oe', vs', T', oT', ts', g1, _, g2, g3, _, _, g4, g5, g6⟩
  · rw [e1] at g1; cases g1
    rw [e2] at g2; cases g2
    rw [e3] at g3; cases g3
  · exact x
  · rw [e1] at g1; cases g1
    rw [e2] at g2; cases g2
    rw [e3] at g3; cases g3
    rw [e4] at g4; cases g4
    rw [e5] at g5; cases g5
    rw [e6] at g6
    cases g6
theorem passAtL {X : Cx} {W : WX} (t : TakesL X W) (σ : St) : PassesAt (L2.CX X.prog X.w) X σ (WE W σ) := fun _ _ _ e s' I c => by
  obtain ⟨L, e0, o0, h1, h2, h3, h4⟩ := t.ex
  obtain ⟨a, B, sI, pins, σ', H, cls, d, rfl, I', nb, up, sky, na, os, ag, w⟩ := XE.of_call (W := W) I (fun _ _ _ h => h) c
  obtain ⟨a2, B2, H2, cls2, d2, e2, fl, _⟩ := c
  cases e2
  exact h4 _ _ ⟨a, B, sI, pins, σ', H, cls, d, rfl, I', nb, up, .inr (.inl (sky_fly fl sky)), na, os, ag, w⟩

theorem inv_xe {X : Cx} {pins : List (Addr × Obj)} {σ : St} {H : Hp} {s : Shared} (xe : Value → Shared → Prop) (I : Inv X pins σ H s) : Inv { X with xe := xe } pins σ H s :=
  ⟨⟨I.ok.mod, I.ok.kind, I.ok.glob, I.ok.blt, I.ok.above, I.ok.inj, I.ok.has, I.ok.cab, I.ok.hd, I.ok.frames, I.ok.stk, I.ok.exf, I.ok.bs, I.ok.bsz, I.ok.noex, I.ok.exfs, I.ok.funs, I.ok.frf⟩,
    I.os, I.bare, I.base, I.loc, I.cell, I.free, I.freeC, I.pin, I.hok, I.len⟩
theorem XEL.xe {X : Cx} {L : Addr} {W : WX} {u : Value} {s' : Shared} (xe : Value → Shared → Prop) (x : XEL X L W u s') : XEL { X with xe := xe } L W u s' := by
  obtain ⟨a, G, t, pins, σ, H, c, d, y1, y2, y3, y4, y5, y6, y7, y8, y9⟩ := x
  exact ⟨a, G, t, pins, σ, H, c, d, y1, inv_xe xe y2, y3, y4, y5, y6, y7, y8, y9⟩

/-- the end of the block, its own names' environment told -/
def lcEnd (M : Model) (A : Around) (E : Value → Shared → Prop) (use : Option (Value → Sem Unit)) (Q : Value → Shared → Prop) (acc : Value) (ce : PySem.Env) (r : Result) (s' : Shared) : Prop :=
  match r, use with
  | .ok _, none => ∃ m, s'.heap.Ns ce.locals m ∧ ∀ g, Heap.SameBut ce.locals s'.heap g → Q acc { s' with heap := g }
  | .ok _, some u => wpAny M A (u acc) (fun _ s2 => ∃ m, s2.heap.Ns ce.locals m ∧ ∀ g, Heap.SameBut ce.locals s2.heap g → Q .none { s2 with heap := g }) E s'
  | .error x, _ => ∃ m, s'.heap.Ns ce.locals m ∧ ∀ g, Heap.SameBut ce.locals s'.heap g → wpAny M A (PySem.passOn "comprehension.variables-let-go" x ce : Sem Value) (fun _ _ => False) E { s' with heap := g }
section
variable {M : Model} {A : Around} {E : Value → Shared → Prop} {s : Shared} {env : PySem.Env}
theorem lc_free {e : Expr} {scope : Scope} {pos : Pos} {newAcc first : Sem Value} {g : Comprehension} {gs : List Comprehension} {cl : List (Str × Addr)} {use : Option (Value → Sem Unit)} {Q : Value → Shared → Prop}
    (c1 : clausesOf e = g :: gs) (c2 : ∀ x, foldedSetIterable g.iter env x = pure x) (c3 : closureFor scope env = pure cl) (c4 : scope.kind = .function) (c5 : ∀ y ∈ scope.names, y.2 = .local → scope.names.lookup y.1 = some .local)
    (w : wpAny M A first (fun x s1 => wpAny M A (pyIter x) (fun it s2 => wpAny M A newAcc (fun acc s3 => wpAny M A (newFunctionEnv scope env.globals cl [] env.qual none .none (some env)) (fun ce s4 =>
      codeAny M A (.compStart e 0 it acc { ce with scope := relabel scope env }) (lcEnd M A E use Q acc { ce with scope := relabel scope env }) s4) E s3) E s2) E s1) E s) :
    wpAny M A (comprehension e scope env pos newAcc false first use) Q E s := by
  unfold comprehension
  rw [c3, c1]
  refine wpAny_bind (wpAny_mono w (fun x s1 w1 => wpAny_bind (wpAny_standAt (wpAny_bind (wpAny_of_eq (c2 x) (wpAny_bind (wpAny_holding (wpAny_mono w1 (fun it s2 w2 => wpAny_standIf (wpAny_bind (wpAny_mono w2 (fun acc s3 w3 =>
    wpAny_bind (wpAny_pure (wpAny_bind (wpAny_mono w3 (fun ce s4 w4 => ?_) fun _ _ q => q)))) fun _ _ q => q))) fun _ _ q => q))))))) fun _ _ q => q)
  dsimp only
  have k1 : ∀ y ∈ (scope.names.filter fun y => (y.2 == .local || y.2 == .cell) && y.1 != (".0" : Str)).reverse, y.2 = .local → Env.kindOf { ce with scope := relabel scope env } y.1 = some .local :=
    fun y hy hl => lookup_relabel_local (c5 y (List.mem_filter.mp (List.mem_reverse.mp hy)).1 hl)
  have k2 : ∀ y ∈ (scope.names.filter fun y => (y.2 == .local || y.2 == .cell) && y.1 != (".0" : Str)).reverse.drop 1 ++ (scope.names.filter fun y => (y.2 == .local || y.2 == .cell) && y.1 != (".0" : Str)).reverse.take 1,
      y.2 = .local → Env.kindOf { ce with scope := relabel scope env } y.1 = some .local := fun y hy hl => by
    rcases List.mem_append.mp hy with q | q
    · exact k1 y (List.mem_of_mem_drop q) hl
    · exact k1 y (List.mem_of_mem_take q) hl
  refine wpAny_holding (wpAny_bind (wpAny_attempt (wpAny_holding (wpAny_run (codeAny_mono w4 fun r s' hr => ?_)))))
  cases r with
  | ok f =>
    cases use with
    | none =>
      obtain ⟨m, q1, q2⟩ := hr
      exact wpAny_bind (wpAny_holding (wpAny_comp_letGo (cenv := { ce with scope := relabel scope env }) c4 _ s' m k1 q1 fun g' m' _ z => wpAny_pure (q2 g' z)))
    | some u =>
      refine wpAny_bind (wpAny_rule (wpAny_bind (wpAny_holding (wpAny_mono hr (fun _ s2 hr2 => ?_) fun _ _ q => q))))
      obtain ⟨m, q1, q2⟩ := hr2
      exact wpAny_bind (wpAny_comp_letGo (cenv := { ce with scope := relabel scope env }) c4 _ s2 m k2 q1 fun g' m' _ z => wpAny_pure (q2 g' z))
  | error x =>
    have hr2 : ∃ m, s'.heap.Ns ce.locals m ∧ ∀ g, Heap.SameBut ce.locals s'.heap g → wpAny M A (PySem.passOn "comprehension.variables-let-go" x { ce with scope := relabel scope env } : Sem Value) (fun _ _ => False) E { s' with heap := g } := by cases use <;> exact hr
    obtain ⟨m, q1, q2⟩ := hr2
    exact wpAny_bind (wpAny_holding (wpAny_comp_letGo (cenv := { ce with scope := relabel scope env }) c4 _ s' m k1 q1 fun g' m' _ z => wpAny_mono (q2 g' z) (fun _ _ f => f.elim) fun _ _ y => y))
end

/-! ### an exception leaves the block -/
theorem note_frame {u : Value} {e1 e2 : PySem.Env} (h : e1.frame = e2.frame) : noteFrame u e1 = noteFrame u e2 := by
  unfold noteFrame PySem.frameOf
  rw [h]
theorem heldZ_but {B h h' : Heap} {l : List PySem.Env} {a L C : Addr} {Z : Obj → Prop} {B' : Heap} (hh : HandSPX.HeldZ B l a Z L h) (hC : ∃ o, B.get? C = some o) (hl : C ∉ frs l) (sb : Heap.SameBut C h h') (b1 : ∀ b, b ≠ C → B'.get? b = B.get? b) (b2 : B'.get? C = none) :
    HandSPX.HeldZ B' l a Z L h' := by
  obtain ⟨st, ha, fr, oe, vs, T, oT, ts, e1, z, e2, e3, e7, e8, e4, e5, e6⟩ := hh
  obtain ⟨oC, hC⟩ := hC
  have nC : ∀ {b : Addr}, B.get? b = none → b ≠ C := fun {b} q z => by rw [z, hC] at q; cases q
  have k : ∀ {b : Addr} {o : Obj}, b ≠ C → h.get? b = some o → h'.get? b = some o := fun {b o} n q => (sb.2 b n).trans q
  have n' : ∀ {b : Addr}, B.get? b = none → B'.get? b = none := fun {b} q => by rw [b1 b (nC q)]; exact q
  have bk : B'.StaysIn h' := fun b o q => by
    have n : b ≠ C := fun z => by rw [z, b2] at q; cases q
    rw [b1 b n] at q
    exact k n (st b o q)
  have fr' : ∀ {l : List PySem.Env}, h.FunFrames B l → C ∉ frs l → h'.FunFrames B' l := by
    intro l
    induction l with
    | nil => intro _ _; trivial
    | cons e r ih =>
      intro hf hn
      obtain ⟨q1, ⟨L', o, q2, q3, q4, q5⟩, q6⟩ := hf
      have nl : L' ≠ C := nC q3
      refine ⟨q1, ⟨L', o, q2, n' q3, k nl q4, q5⟩, ih q6 fun z => hn ?_⟩
      obtain ⟨e', m1, m2⟩ := List.mem_filterMap.mp z
      exact List.mem_filterMap.mpr ⟨e', List.mem_cons_of_mem _ m1, m2⟩
  exact ⟨bk, n' ha, fr' fr hl, oe, vs, T, oT, ts, k (nC ha) e1, z, e2, e3, n' e7, e8, k (nC e7) e4, e5, e6⟩
theorem blk_err {X : Cx} {pins : List (Addr × Obj)} {σ : St} {H3 : Hp} {s3 s' : Shared} {scope : Scope} {ce e0 : PySem.Env} {o0 : List PySem.Env} {fp : List Addr} {L : Addr} {W W' : WX} {u acc : Value} {use : Option (Value → Sem Unit)} {Qf : Value → Shared → Prop}
    (I3 : Inv X pins σ H3 s3) (cL : ce.locals = s3.heap.objs.size) (cF : ce.frame = some L) (hst : X.stack = e0 :: o0) (hf : e0.frame = some L) (tk : ∀ u s', XEL X L W u s' → X.xe u s') (hW : ∀ c d σ' H, W' c d σ' H → W c d σ H)
    (f3 : ∀ b ∈ fp, FpOk X pins H3 b ∧ b < s3.heap.objs.size) (x : XEL (X.blk s3 H3 scope ce fp) L W' u s') :
    notedBy (model X.prog X.w) X.A ce (fun e t => lcEnd (model X.prog X.w) X.A X.xe use Qf acc ce (.error e) t) u s' := by
  obtain ⟨a, B, sI, pn, σ', H, cls, d, rfl, I, nb, up, sky, na, os, ag, w⟩ := x
  have hfr : X.A.frames = some (e0 :: o0) := by rw [I3.ok.frames, hst]
  have nC : ce.locals ∉ frs X.stack := fun z => by
    obtain ⟨_, o, q, _⟩ := I3.stack.mem z
    have := Heap.lt_size q
    rw [cL] at this
    exact absurd this (Nat.lt_irrefl _)
  obtain ⟨m, hm, _⟩ := I.loc
  have hm : sI.heap.Ns ce.locals m := hm
  obtain ⟨oC, es, ep, hoC, rC⟩ := hm
  have hBC : B.get? ce.locals = some oC := nb _ _ hoC nC
  have key : ∀ h1, HandSPX.HeldZ B (e0 :: o0) a (Zc cls d) L h1 → s'.heap.UpToSlots h1 → lcEnd (model X.prog X.w) X.A X.xe use Qf acc ce (.error (.ref a)) { s' with heap := h1 } := fun h1 hh up1 => by
    have go : ∃ m, h1.Ns ce.locals m ∧ ∀ g, Heap.SameBut ce.locals h1 g → wpAny (model X.prog X.w) X.A (PySem.passOn "comprehension.variables-let-go" (.ref a) ce : Sem Value) (fun _ _ => False) X.xe { s' with heap := g } := by
      refine ⟨m, ⟨oC, es, ep, hh.1 _ _ hBC, rC⟩, fun g sb => ?_⟩
      obtain ⟨B2, b1, b2⟩ := restrict B fun b => decide (b ≠ ce.locals)
      obtain ⟨G, g1, g2⟩ := restrict sI.heap fun b => decide (b ≠ ce.locals)
      have hh2 : HandSPX.HeldZ B2 (e0 :: o0) a (Zc cls d) L g := heldZ_but hh ⟨_, hBC⟩ (by rw [← hst]; exact nC) sb (fun b n => b1 b (decide_eq_true n)) (b2 _ (by simp))
      obtain ⟨oe, vs, T, oT, ts, e1, z, e2, e3, _⟩ := hh2.2.2.2
      have Cn : H ce.locals = none := I.free
      have nCx : H s3.heap.objs.size = none := by rw [← cL]; exact Cn
      have J : Inv X pins σ H sI := I3.call' (ch := fp) I.os I.base I.hok I.bare fun b hb => ⟨(f3 b hb).1.2.2.2.1, (f3 b hb).1.2.1, (f3 b hb).1.2.2.2.2.1, (f3 b hb).1.2.2.2.2.2⟩
      obtain ⟨f0, f1, f2, f4, f5, f6⟩ := I3.fpOk (Nat.le_refl _) nCx
      have J2 : Inv X pins σ H { sI with heap := G } := J.turned (t' := sI.toks) (it := s3.heap.objs.size) (fun b o n q => by rw [g1 b (decide_eq_true (by rw [cL]; exact n))]; exact q) f0 f1 f4 f5 f6
      unfold PySem.passOn
      refine wpAny_bind (wpAny_field e1 e2 e3 ?_)
      refine wpAny_bind ?_
      rw [cF]
      refine HandSPX.setFlight_onZ hh2 fun h3 hh3 up3 => ?_
      refine wpAny_throw (tk _ _ ⟨a, B2, { sI with heap := G }, pins, σ, H, cls, d, rfl, J2, fun b o q hb => ?_, fun b o q hd => ?_, .inr (.inr (by rw [hst]; exact hh3)), na, os, ag, hW _ _ _ _ w⟩)
      · have n : b ≠ ce.locals := fun z => by rw [z, g2 _ (by simp)] at q; cases q
        rw [g1 b (decide_eq_true n)] at q
        rw [b1 b (decide_eq_true n)]
        exact nb b o q hb
      · have n : b ≠ ce.locals := fun z => by
          have q : G.get? b = some o := q
          rw [z, g2 _ (by simp)] at q; cases q
        have q : G.get? b = some o := q
        rw [g1 b (decide_eq_true n)] at q
        obtain ⟨sl, k1⟩ := up b o q hd
        obtain ⟨sl2, k2⟩ := up1 b _ k1 hd
        obtain ⟨sl3, k3⟩ := up3 b _ ((sb.2 b n).trans k2) hd
        exact ⟨sl3, k3⟩
    cases use <;> exact go
  unfold notedBy
  rw [note_frame (cF.trans hf.symm)]
  have sky : Sky B X.stack a (Zc cls d) L s'.heap := sky
  rw [hst] at sky
  rcases sky with ⟨hB, hn, hl, oe, vs, he, hz, hd, h1⟩ | fl | hh
  · exact HandSPX.look_newZ Zc.steady hfr hl hf he hB hn hd h1 hz key
  · exact HandSPX.looks_onZ Zc.steady hfr hf fl key
  · exact HandSPX.againZ hf hh.2.2.2 (key s'.heap hh (Heap.UpToSlots.refl _))

/-! ### the block -/
abbrev blkE (X : Cx) (s : Shared) (H : Hp) (scope : Scope) (ce : PySem.Env) (fp : List Addr) (L : Addr) (W : WX) : Cx := { X.blk s H scope ce fp with xe := fun u s' => XEL (X.blk s H scope ce fp) L W u s' }
theorem blkE_takes {X : Cx} {s : Shared} {H : Hp} {scope : Scope} {ce e0 : PySem.Env} {o0 : List PySem.Env} {fp : List Addr} {L : Addr} {W : WX} (cF : ce.frame = some L) (hst : X.stack = e0 :: o0) (hf : e0.frame = some L) : TakesL (blkE X s H scope ce fp L W) W :=
  ⟨L, e0, o0, cF, hst, hf, fun _ _ x => XEL.xe (fun _ _ => False) x⟩
theorem lc_coreE {X : Cx} {pins : List (Addr × Obj)} {s : Shared} {σ : St} {H : Hp} {Q : VK} {elt tg iter : Expr} {ifs : List Expr} {scope : Scope} {own : List (Str × Nat)} {pos pos' : Pos} {wi : TI} {g : TG} {tt : TT} {te : TE} {use : Option (Value → Sem Unit)} {Qf : Value → Shared → Prop}
    {W W' : WX} (tk : TakesL X W) (hW : ∀ c d σ' H, W' c d σ' H → W c d σ H)
    (hc : X.calm = true) (hN : X.N.Nodup) (I : Inv X pins σ H s) (hi : PI X tg iter wi) (okb : BlkOk X.N X.env.scope scope own)
    (hg : ∀ (s : Shared) (H : Hp) (C L : Addr) (cl : List (Str × Addr)) (fp : List Addr), PG (blkE X s H scope (compEnvC scope cl C X.env) fp L W') tg g)
    (ht : ∀ (s : Shared) (H : Hp) (C L : Addr) (cl : List (Str × Addr)) (fp : List Addr), TakesL (blkE X s H scope (compEnvC scope cl C X.env) fp L W') W' → PTs (blkE X s H scope (compEnvC scope cl C X.env) fp L W') ifs tt)
    (he : ∀ (s : Shared) (H : Hp) (C L : Addr) (cl : List (Str × Addr)) (fp : List Addr), TakesL (blkE X s H scope (compEnvC scope cl C X.env) fp L W') W' → PE (blkE X s H scope (compEnvC scope cl C X.env) fp L W') elt te)
    (hs : ∀ x, foldedSetIterable iter X.env x = pure x) (h : tLc wi g tt te (own.map (·.2)) σ H Q)
    (hRR : ∀ D ce s' m H', Inv X pins σ H' s' → Q (.ref D) H' → s'.heap.Ns ce.locals m → FpOk X pins H' ce.locals → lcEnd (model X.prog X.w) X.A X.xe use Qf (.ref D) ce (.ok .next) s') :
    wpAny (model X.prog X.w) X.A (comprehension (.ListComp elt [⟨tg, iter, ifs, 0⟩] scope pos) scope X.env pos' (newList []) false (eval iter X.env) use) Qf X.xe s := by
  obtain ⟨L, e0, o0, hF, hst, hf, tk⟩ := tk.ex
  have hfree : ∀ y ∈ scope.names, y.2 = .free → ∃ c, X.env.cells.lookup y.1 = some c := fun y hy e => (okb.free y hy e).elim (fun k => I.ok.has _ (.inl k)) fun k => I.ok.has _ (.inr k)
  refine lc_free (use := use) rfl hs (closure_ok hfree) okb.kind (fun y hy e => by rw [okb.uniq y hy, e]) (thn (hi.run pins s σ H _ I h) fun xv s1 hx => thn hx fun itv s2 h2 => ?_)
  obtain ⟨it, fp, tn, J, H2, e, I2, T, st2, f2, q⟩ := h2
  subst e
  refine wpAny_newObj_type (newEnv_comp ?_) (Nat.zero_le _)
  generalize hD : s2.heap.objs.size = D
  have hDn : H2 D = none := I2.hok.fresh (Nat.le_of_eq hD)
  obtain ⟨W0, ⟨m0, w0⟩, turn⟩ := q D hDn
  generalize hs3 : ({ s2 with heap := s2.heap.push { cls := .type "list", data := .seq ([] : List Value).toArray } } : Shared) = s3
  have h3 : s3.heap = s2.heap.push { cls := .type "list", data := .seq ([] : List Value).toArray } := by rw [← hs3]
  have I3 : Inv X pins σ (upd H2 D (.lst [])) s3 := by
    rw [← hs3]
    refine I2.laid (t' := s2.toks) (fun b o e => Heap.get?_push_of_some _ e) (Nat.le_of_eq hD) ⟨Nat.zero_le _, [], 0, .nil, ?_⟩
    rw [← hD]
    exact Heap.get?_push_size _ rfl
  have lt2 : ∀ b ∈ fp, b < s2.heap.objs.size := fun b hb => let ⟨_, e, _⟩ := T.obj _ _ st2 b hb; Heap.lt_size e
  have f3 : ∀ b ∈ fp, FpOk X pins (upd H2 D (.lst [])) b ∧ b < s3.heap.objs.size := fun b hb => by
    have hlt := lt2 b hb
    refine ⟨⟨?_, (f2 b hb).2⟩, by rw [h3, Heap.size_push]; exact Nat.lt_succ_of_lt hlt⟩
    rw [upd_ne (by rw [← hD]; exact Nat.ne_of_lt hlt)]
    exact (f2 b hb).1
  have st3 : tn 0 s3.heap := T.keep _ _ _ st2 fun b _ o e => by rw [h3]; exact Heap.get?_push_of_some _ e
  have nfp : ∀ b ∈ fp, (upd H2 D (.lst [])) b = none := fun b hb => (f3 b hb).1.1
  generalize hH3 : upd H2 D (.lst []) = H3 at I3 w0 nfp f3
  have I4 := block_start I3 okb hN f3
  generalize hcl : cellsFrom (s3.heap.objs.size + 1) scope.names (cloFrom X.env.cells scope.names []) = cl at I4
  have tkB : TakesL (blkE X s3 H3 scope (compEnvC scope cl s3.heap.objs.size X.env) fp L W') W' := blkE_takes hF hst hf
  have pg := hg s3 H3 s3.heap.objs.size L cl fp
  have pt := ht s3 H3 s3.heap.objs.size L cl fp tkB
  have pe := he s3 H3 s3.heap.objs.size L cl fp tkB
  show codeAny _ _ (.compStart (.ListComp elt [⟨tg, iter, ifs, 0⟩] scope pos) 0 (.ref it) (.ref D) (compEnvC scope cl s3.heap.objs.size X.env))
    (lcEnd (model X.prog X.w) X.A X.xe use Qf (.ref D) (compEnvC scope cl s3.heap.objs.size X.env)) { s3 with heap := pushCells (s3.heap.push { cls := .type "dict", data := .dict #[] }) scope.names }
  generalize hce : compEnvC scope cl s3.heap.objs.size X.env = ce at I4 pg pt pe ⊢
  have cL : ce.locals = s3.heap.objs.size := by rw [← hce]; rfl
  have cF : ce.frame = some L := by rw [← hce]; exact hF
  have err : ∀ u t, XEL (X.blk s3 H3 scope ce fp) L W' u t → notedBy (model X.prog X.w) X.A ce (fun e t => lcEnd (model X.prog X.w) X.A X.xe use Qf (.ref D) ce (.error e) t) u t := fun u t x => blk_err I3 cL cF hst hf tk hW f3 x
  generalize hs4 : ({ s3 with heap := pushCells (s3.heap.push { cls := .type "dict", data := .dict #[] }) scope.names } : Shared) = s4 at I4 ⊢
  have st4 : tn 0 s4.heap := T.keep _ _ _ st3 fun b _ o e => by rw [← hs4]; exact pushCells_keeps _ _ _ _ (Heap.get?_push_of_some _ e)
  have I4 : Inv (blkE X s3 H3 scope ce fp L W') [] (wipe σ (own.map (·.2))) H3 s4 := inv_xe (fun u t => XEL (X.blk s3 H3 scope ce fp) L W' u t) I4
  have stat : ∀ {σ' : St} {H' : Hp} {s' : Shared}, Inv (blkE X s3 H3 scope ce fp L W') [] σ' H' s' → (∀ b ∈ fp, H' b = none) → ∀ b ∈ fp, FpOk (blkE X s3 H3 scope ce fp L W') [] H' b := fun {σ' H' s'} I' hn b hb =>
    ⟨hn b hb, (I'.ok.exf b hb).1, I'.ok.exfs b hb, .inl hb, fun x c e => (I'.ok.exf b hb).2 x c e, fun p hp => absurd (show p ∈ ([] : List (Addr × Obj)) ++ [] from hp) (by simp)⟩
  have loop : codeAny (model X.prog X.w) X.A (.compLoop (.ListComp elt [⟨tg, iter, ifs, 0⟩] scope pos) 0 (.ref it) (.ref D) ce) (lcEnd (model X.prog X.w) X.A X.xe use Qf (.ref D) ce) s4 := by
    refine compLoop_any (fun n t => ∃ i H', Inv (blkE X s3 H3 scope ce fp L W') [] (wipe σ (own.map (·.2))) H' t ∧ tn i t.heap ∧ (∀ b ∈ fp, H' b = none) ∧ W0 i n H') ?_ m0 ⟨0, H3, I4, st4, nfp, w0⟩
    rintro n s5 ⟨i, H5, I5, st5, n5, w5⟩
    rcases turn i n H5 w5 with ⟨stop, qq⟩ | ⟨go, Nx, hNx, step⟩
    · refine thnF (T.done (blkE X s3 H3 scope ce fp L W') rfl rfl rfl hc i [] s5 _ H5 (fun _ _ => False) I5 (stat I5 n5) st5 stop) fun r s6 ⟨hr, I6⟩ => ?_
      subst hr
      have I7 : Inv X pins σ H5 s6 := I3.call' (ch := fp) I6.os I6.base I6.hok I6.bare fun b hb => ⟨(f3 b hb).1.2.2.2.1, (f3 b hb).1.2.1, (f3 b hb).1.2.2.2.2.1, (f3 b hb).1.2.2.2.2.2⟩
      have nC : H5 ce.locals = none := I6.free
      obtain ⟨m, hn, _⟩ := I6.loc
      exact hRR D ce s6 m H5 I7 qq hn (by rw [cL] at nC ⊢; exact I3.fpOk (Nat.le_refl _) nC)
    · refine thnF (T.item (blkE X s3 H3 scope ce fp L W') rfl rfl rfl hc i [] s5 _ H5 (fun _ _ => False) I5 (stat I5 n5) st5 go) fun r s6 ⟨u, hr, h6⟩ => ?_
      subst hr
      refine thnF h6 fun _ s7 ⟨x, H7, I7, r7, y7, st7, n7⟩ => ?_
      have I7' := I7.pinned (stat I7 n7) (T.obj _ _ st7)
      refine wpAny_mono (pg.run _ s7 _ H7 x u _ I7' r7 (step x H7 y7)) (fun _ s8 ⟨σ8, H8, I8, hw8, q8⟩ => ?_) err
      refine wpAny_mono (pt.run _ s8 σ8 H8 _ I8 q8) (fun b s9 ⟨H9, I9, q9⟩ => ?_) err
      have fin : ∀ {s' : Shared} {H' : Hp}, Inv (blkE X s3 H3 scope ce fp L W') ([] ++ pinsAt fp s7.heap) σ8 H' s' → Nx H' → ∃ m, m < n ∧ ∃ i H', Inv (blkE X s3 H3 scope ce fp L W') [] (wipe σ (own.map (·.2))) H' s' ∧ tn i s'.heap ∧ (∀ b ∈ fp, H' b = none) ∧ W0 i m H' := fun {s' H'} I' nx => by
        obtain ⟨m', hm, w'⟩ := hNx H' nx
        have pin' : ∀ b ∈ fp, ∀ o, s7.heap.get? b = some o → s'.heap.get? b = some o ∧ H' b = none := fun b hb o e =>
          let z := I'.pin (b, o) (List.mem_append_right _ (List.mem_append_right _ (mem_pinsAt hb e)))
          ⟨z.1, z.2.1⟩
        have hl : (wipe σ (own.map (·.2))).length = σ8.length := by rw [← hw8, wipe_length]
        refine ⟨m', hm, i + 1, H', (I'.unpinned (pins := [])).weak hl (fun j v e => ?_), T.keep _ _ _ st7 fun b hb o e => (pin' b hb o e).1, fun b hb => ?_, w'⟩
        · rw [← hw8] at e
          exact (wipe_some e).1
        · obtain ⟨o, e, _⟩ := T.obj _ _ st7 b hb
          exact (pin' b hb o e).2
      cases b with
      | false =>
        simp only [Bool.false_eq_true, if_false] at q9 ⊢
        exact fin I9 q9
      | true =>
        simp only [if_true] at q9 ⊢
        refine wpAny_mono (pe.run _ s9 σ8 H9 _ I9 q9) (fun z s10 ⟨yv, H10, I10, r10, acc, hD10, hz10, nx⟩ => ?_) err
        exact app_ok (X := blkE X s3 H3 scope ce fp L W') I10 hD10 hz10 r10 fun s11 I11 => fin I11 nx
  exact codeAny_compStart_list loop (T.self X.A 0 _ _ _ st4 loop)
section
variable {X : Cx} {elt tg iter : Expr} {ifs : List Expr} {scope : Scope} {own : List (Str × Nat)} {wi : TI} {g : TG} {tt : St → TT} {te : St → TE} {W : WX} {W' : St → WX}
/-- as a value; the block's wishes by the slots around it -/
theorem pe_lcE {pos : Pos} (tk : TakesL X W) (hW : ∀ σ c d σ' H, W' σ c d σ' H → W c d σ H) (hc : X.calm = true) (hN : X.N.Nodup) (hi : PI X tg iter wi) (okb : BlkOk X.N X.env.scope scope own)
    (hg : ∀ (σ : St) (s : Shared) (H : Hp) (C L : Addr) (cl : List (Str × Addr)) (fp : List Addr), PG (blkE X s H scope (compEnvC scope cl C X.env) fp L (W' σ)) tg g)
    (ht : ∀ (σ : St) (s : Shared) (H : Hp) (C L : Addr) (cl : List (Str × Addr)) (fp : List Addr), TakesL (blkE X s H scope (compEnvC scope cl C X.env) fp L (W' σ)) (W' σ) → PTs (blkE X s H scope (compEnvC scope cl C X.env) fp L (W' σ)) ifs (tt σ))
    (he : ∀ (σ : St) (s : Shared) (H : Hp) (C L : Addr) (cl : List (Str × Addr)) (fp : List Addr), TakesL (blkE X s H scope (compEnvC scope cl C X.env) fp L (W' σ)) (W' σ) → PE (blkE X s H scope (compEnvC scope cl C X.env) fp L (W' σ)) elt (te σ))
    (hs : ∀ x, foldedSetIterable iter X.env x = pure x) : PE X (.ListComp elt [⟨tg, iter, ifs, 0⟩] scope pos) (fun σ => tLc wi g (tt σ) (te σ) (own.map (·.2)) σ) := by
  refine ⟨fun pins s σ H Q I h => ?_⟩
  rw [eval_ListComp]
  refine lc_coreE tk (hW σ) hc hN I hi okb (hg σ) (ht σ) (he σ) hs h fun D ce s' m H' I' q hn f => ⟨m, hn, fun h2 sb => ?_⟩
  obtain ⟨f0, f1, f2, f3, f4, f5⟩ := f
  exact ⟨.ref D, H', I'.turned (t' := s'.toks) (fun b o hb e => (sb.2 b hb).trans e) f0 f1 f3 f4 f5, rfl, q⟩
/-- name = [..] on one line -/
theorem ps_setLcE {i : Nat} {y : Str} {py pos spos : Pos} (tk : TakesL X W) (hW : ∀ σ c d σ' H, W' σ c d σ' H → W c d σ H) (hc : X.calm = true) (hN : X.N.Nodup) (hy : X.N[i]? = some y) (hyl : X.env.scope.names.lookup y = some .local)
    (hsw : swapsWith (.ListComp elt [⟨tg, iter, ifs, 0⟩] scope pos) (some (.Name y py)) spos.line X.env = pure true) (hi : PI X tg iter wi) (okb : BlkOk X.N X.env.scope scope own)
    (hg : ∀ (σ : St) (s : Shared) (H : Hp) (C L : Addr) (cl : List (Str × Addr)) (fp : List Addr), PG (blkE X s H scope (compEnvC scope cl C X.env) fp L (W' σ)) tg g)
    (ht : ∀ (σ : St) (s : Shared) (H : Hp) (C L : Addr) (cl : List (Str × Addr)) (fp : List Addr), TakesL (blkE X s H scope (compEnvC scope cl C X.env) fp L (W' σ)) (W' σ) → PTs (blkE X s H scope (compEnvC scope cl C X.env) fp L (W' σ)) ifs (tt σ))
    (he : ∀ (σ : St) (s : Shared) (H : Hp) (C L : Addr) (cl : List (Str × Addr)) (fp : List Addr), TakesL (blkE X s H scope (compEnvC scope cl C X.env) fp L (W' σ)) (W' σ) → PE (blkE X s H scope (compEnvC scope cl C X.env) fp L (W' σ)) elt (te σ))
    (hs : ∀ x, foldedSetIterable iter X.env x = pure x) : PS X (.Assign [.Name y py] (.ListComp elt [⟨tg, iter, ifs, 0⟩] scope pos) spos) (tAsg (fun σ => tLc wi g (tt σ) (te σ) (own.map (·.2)) σ) (gName i)) := by
  refine ⟨fun pins s σ H D I h => ?_⟩
  rw [exec_Assign_Name_used _ _ _ _ hsw]
  refine wpAny_bind (wpAny_standAt (wpAny_bind ?_))
  show wpAny _ X.A (do let _ ← comprehension (.ListComp elt [⟨tg, iter, ifs, 0⟩] scope pos) scope X.env (firstIterPos [⟨tg, iter, ifs, 0⟩] pos) (newList []) false (eval iter X.env) (some (assign (.Name y py) X.env))) _ _ s
  have h : tLc wi g (tt σ) (te σ) (own.map (·.2)) σ H (fun x H1 => gName i x σ H1 D.nx) := h
  refine wpAny_bind (thn (lc_coreE (Qf := fun _ s' => SP X pins D .next s') tk (hW σ) hc hN I hi okb (hg σ) (ht σ) (he σ) hs h fun L ce s' m H' I' q hn f => ?_) fun _ s' hq => wpAny_pure (wpAny_pure hq))
  show wpAny _ _ (assign (.Name y py) X.env (.ref L)) _ _ _
  obtain ⟨f0, f1, f2, f3, f4, f5⟩ := f
  refine wpAny_assign_Name (store_ok2 (v := V.ref L) I' hN hy (.inl hyl) rfl (fun s2 I2 ⟨a, sb, ha⟩ => ?_) (.inr hyl))
  have hne : ce.locals ≠ a := ha.elim (fun z => by rw [z]; exact f1) fun z e => f4 y a z e.symm
  exact ⟨m, hn.sameBut sb hne, fun h3 sb3 => ⟨_, H', I2.turned (t' := s2.toks) (fun b o hb e => (sb3.2 b hb).trans e) f0 f1 f3 f4 f5, q⟩⟩
end
end Ev

set_option maxHeartbeats 1000000
/-! Ev: zip of any lists and tuples, enumerate of both. -/
namespace Ev
open PySem PySem.Spec PyProof.Rows L2
set_option autoImplicit false

/-- an iterator over a list (false) or a tuple (true); what it walks -/
def SIt (t : Bool) (h : Heap) (it a : Addr) (k : Nat) : Prop := match t with
  | false => h.IsListIter it a k
  | true => h.IsTupleIter it a k
def SOb (t : Bool) (h : Heap) (a : Addr) (xs : Array Value) : Prop := match t with
  | false => h.IsList a xs
  | true => h.IsTuple a xs
theorem SIt.at {t : Bool} {h h' : Heap} {it a : Addr} {k : Nat} (x : SIt t h it a k) (e : ∀ o, h.get? it = some o → h'.get? it = some o) : SIt t h' it a k := by
  cases t with
  | false => obtain ⟨o, ho, r⟩ := x; exact ⟨o, e o ho, r⟩
  | true => obtain ⟨o, ho, r⟩ := x; exact ⟨o, e o ho, r⟩
theorem SOb.at {t : Bool} {h h' : Heap} {a : Addr} {xs : Array Value} (x : SOb t h a xs) (e : ∀ o, h.get? a = some o → h'.get? a = some o) : SOb t h' a xs := by
  cases t with
  | false => obtain ⟨o, ho, r⟩ := x; exact ⟨o, e o ho, r⟩
  | true => obtain ⟨o, ho, r⟩ := x; exact ⟨o, e o ho, r⟩
theorem SIt.obj {t : Bool} {h : Heap} {it a : Addr} {k : Nat} (x : SIt t h it a k) : ∃ o, h.get? it = some o ∧ ∀ v, o.data ≠ .cell v := by
  cases t with
  | false => obtain ⟨o, ho, _, d⟩ := x; exact ⟨o, ho, fun v q => by rw [d] at q; cases q⟩
  | true => obtain ⟨o, ho, _, d⟩ := x; exact ⟨o, ho, fun v q => by rw [d] at q; cases q⟩
theorem SOb.obj {t : Bool} {h : Heap} {a : Addr} {xs : Array Value} (x : SOb t h a xs) : ∃ o, h.get? a = some o := by
  cases t with
  | false => obtain ⟨o, ho, _⟩ := x; exact ⟨o, ho⟩
  | true => obtain ⟨o, ho, _⟩ := x; exact ⟨o, ho⟩
section
variable {prog : Program} {w : World} {A : Around} {E : Value → Shared → Prop} {s : Shared}
theorem nextOf_item {t : Bool} {it l : Addr} {i : Nat} {items : Array Value} {x : Value} {Q : Value → Shared → Prop} (hit : SIt t s.heap it l i) (hl : SOb t s.heap l items) (hx : items[i]? = some x)
    (hQ : ∀ h', SIt t h' it l (i + 1) → Heap.SameBut it s.heap h' → Q x { s with heap := h' }) : wpAny (model prog w) A (Builtin.SmallTypes.nextOf (.ref it)) Q E s := by
  cases t with
  | false => exact wpAny_nextOf_list_item hit hl hx hQ
  | true => exact RZ.nextOf_tuple_item hit hl hx hQ
theorem nextOf_end {t : Bool} {it l : Addr} {i : Nat} {items : Array Value} {Q : Value → Shared → Prop} (hh : A.handled = none) (hit : SIt t s.heap it l i) (hl : SOb t s.heap l items) (hx : items[i]? = none)
    (hE : ∀ h' e, Heap.ExtBut it s.heap h' → (∃ o, h'.get? e = some o ∧ o.cls = .type "StopIteration") → E (.ref e) { s with heap := h' }) : wpAny (model prog w) A (Builtin.SmallTypes.nextOf (.ref it)) Q E s := by
  cases t with
  | false => exact wpAny_nextOf_list_end hh hit hl hx hE
  | true => exact RZ.nextOf_tuple_end hh hit hl hx hE
/-- what iter of it makes -/
def itO (t : Bool) (a : Addr) : Obj := match t with
  | false => { cls := .type "list_iterator", data := .fields #[.ref a, .int 0 0] }
  | true => { cls := .type "tuple_iterator", data := .fields #[.ref a, .int 0 0] }
theorem pyIter_src {t : Bool} {l : Addr} {items : Array Value} {Q : Value → Shared → Prop} (hl : SOb t s.heap l items) (hQ : Q (.ref s.heap.objs.size) { s with heap := s.heap.push (itO t l) }) : wpAny (model prog w) A (pyIter (.ref l)) Q E s := by
  cases t with
  | false => exact wpAny_pyIter_list hl hQ
  | true => exact wpAny_pyIter_tuple hl hQ
theorem SIt.new {t : Bool} {h : Heap} {it a : Addr} (e : h.get? it = some (itO t a)) : SIt t h it a 0 := by
  cases t with
  | false => exact ⟨_, e, rfl, rfl⟩
  | true => exact ⟨_, e, rfl, rfl⟩

/-! ### zip -/
structure ZRow where
  t : Bool
  it : Addr
  src : Addr
  xs : Array Value
abbrev IsTupV (h : Heap) (T : Addr) (vs : List Value) : Prop := h.get? T = some { cls := .type "tuple", data := .seq vs.toArray }
structure ZApart (z TI TO : Addr) (rows : List ZRow) : Prop where
  TIz : TI ≠ z
  TOz : TO ≠ z
  TITO : TI ≠ TO
  it : ∀ r ∈ rows, r.it ≠ z ∧ r.it ≠ TI ∧ r.it ≠ TO
  src : ∀ r ∈ rows, r.src ≠ z ∧ r.src ≠ TO ∧ ∀ r' ∈ rows, r.src ≠ r'.it
  nd : (rows.map ZRow.it).Nodup
theorem updateSeq_tup {T : Addr} {vs : List Value} {x : Value} {k : Nat} {Q : Unit → Shared → Prop} (hT : IsTupV s.heap T vs) (hz : vs.length ≤ sizeLine)
    (h : ∀ h', IsTupV h' T (vs.set k x) → Heap.SameBut T s.heap h' → Q () { s with heap := h' }) : wpAny (model prog w) A (updateSeq T (·.setIfInBounds k x)) Q E s := by
  refine wpAny_updateSeq hT rfl (h _ ?_ (Heap.SameBut.update ..)) (by simpa using hz) (by simp; omega)
  show (s.heap.update T (Obj.mapSeq fun x_1 => x_1.setIfInBounds k x)).get? T = _
  rw [Heap.get?_update_self _ hT rfl]
  simp [Obj.mapSeq]
/-- the loop of a draw, up to the rows that are left -/
structure ZSt (z TI TO : Addr) (k : Nat) (rows : List ZRow) (h0 : Heap) (pre post : List ZRow) (h : Heap) : Prop where
  all : rows = pre ++ post
  zip : IsZip h z TI TO .ellipsis
  own : ∃ vs : List Value, vs.length = post.length ∧ IsTupV h TO (pre.map (fun r => r.xs[k]?.getD .none) ++ vs)
  got : ∀ r ∈ pre, SIt r.t h r.it r.src (k + 1) ∧ ∃ x, r.xs[k]? = some x
  due : ∀ r ∈ post, SIt r.t h r.it r.src k
  src : ∀ r ∈ rows, SOb r.t h r.src r.xs
  size : h.objs.size = h0.objs.size
  keep : ∀ c o, c ≠ z → c ≠ TO → (∀ r ∈ rows, c ≠ r.it) → h0.get? c = some o → h.get? c = some o
theorem zipN_run {z TI TO : Addr} {k : Nat} {rows : List ZRow} {Q : Fin → Shared → Prop} (D : ZApart z TI TO rows) (hne : rows ≠ []) (hl : rows.length ≤ 100) (hz : IsZip s.heap z TI TO .none) (hTI : IsTupV s.heap TI (rows.map fun r => .ref r.it))
    (hTO : ∃ vs : List Value, vs.length = rows.length ∧ IsTupV s.heap TO vs) (hit : ∀ r ∈ rows, SIt r.t s.heap r.it r.src k ∧ SOb r.t s.heap r.src r.xs)
    (hE : A.handled = none ∨ ∀ r ∈ rows, ∃ x, r.xs[k]? = some x)
    (hQ : (∀ r ∈ rows, ∃ x, r.xs[k]? = some x) → ∀ h', IsZip h' z TI TO (rawInt s.heap.objs.size) → (∃ vs : List Value, vs.length = rows.length ∧ IsTupV h' TO vs) → (∀ r ∈ rows, SIt r.t h' r.it r.src (k + 1)) → IsTupV h' s.heap.objs.size (rows.map fun r => r.xs[k]?.getD .none) →
      h'.objs.size = s.heap.objs.size + 1 → (∀ c o, c ≠ z → c ≠ TO → (∀ r ∈ rows, c ≠ r.it) → s.heap.get? c = some o → h'.get? c = some o) → Q (.done (.ret (.ref s.heap.objs.size))) { s with heap := h' })
    (hX : (∃ r ∈ rows, r.xs[k]? = none) → ∀ h' e, (∀ c o, c ≠ z → c ≠ TO → (∀ r ∈ rows, c ≠ r.it) → s.heap.get? c = some o → h'.get? c = some o) → (∃ o, h'.get? e = some o ∧ o.cls = .type "StopIteration") → E (.ref e) { s with heap := h' }) :
    wpAny (model prog w) A (Builtin.«zip.__next__» ⟨[.ref z], []⟩) Q E s := by
  have hsl : ∀ {n : Nat}, n ≤ 100 → n ≤ sizeLine := fun {n} h => by unfold sizeLine; omega
  show wpAny _ _ (field (.ref z) 2 >>= _) _ _ _
  refine wpAny_bind (wpAny_field hz rfl (x := .bool false) rfl ?_)
  show wpAny _ _ (field (.ref z) 3 >>= _) _ _ _
  refine wpAny_bind (wpAny_field hz rfl (x := .ref TI) rfl ?_)
  refine wpAny_bind (wpAny_seqItems hTI rfl ?_)
  have hemp : ((rows.map fun r => Value.ref r.it).toArray).isEmpty = false := by
    cases rows with
    | nil => exact absurd rfl hne
    | cons _ _ => rfl
  show wpAny _ _ (if ((rows.map fun r => Value.ref r.it).toArray).isEmpty = true then _ else _) _ _ _
  rw [hemp, if_neg Bool.false_ne_true]
  show wpAny _ _ (Builtin.SmallTypes.ownedTupleIsFree (.ref z) >>= _) _ _ _
  refine wpAny_bind ?_
  unfold Builtin.SmallTypes.ownedTupleIsFree
  refine wpAny_bind (wpAny_field hz rfl (x := .none) rfl (wpAny_pure ?_))
  simp only [if_true]
  refine wpAny_bind (wpAny_rule ?_)
  refine wpAny_bind (wpAny_field hz rfl (x := .ref TO) rfl ?_)
  refine wpAny_bind (wpAny_setField_rec hz (by simp) fun h₁ hz₁ hs₁ => ?_)
  replace hz₁ : IsZip h₁ z TI TO .ellipsis := hz₁
  refine wpAny_bind ?_
  refine wpAny_forIn_list _ (fun rest b s' => b.1 = none ∧ ∃ pre post h', rest = (post.map fun r => Value.ref r.it).zipIdx pre.length ∧ s' = { s with heap := h' } ∧ ZSt z TI TO k rows s.heap pre post h') _ ?_ ?_ _ _ ⟨rfl, [], rows, h₁, by simp, rfl, ?_⟩
  · rintro ⟨x, j⟩ rest b s' ⟨hb, pre, post, h', hr, rfl, Z⟩
    cases post with
    | nil => simp at hr
    | cons r post =>
      rw [List.map_cons, List.zipIdx_cons] at hr
      cases hr
      have hmem : r ∈ rows := by rw [Z.all]; simp
      obtain ⟨d1, d2, d3⟩ := D.it r hmem
      have nep : ∀ q ∈ pre, q.it ≠ r.it := fun q hq => by
        have nd := D.nd
        rw [Z.all, List.map_append, List.nodup_append] at nd
        exact nd.2.2 _ (List.mem_map_of_mem hq) _ (by simp)
      have neq : ∀ q ∈ post, q.it ≠ r.it := fun q hq e => by
        have nd := D.nd
        rw [Z.all, List.map_append, List.nodup_append] at nd
        have := nd.2.1
        rw [List.map_cons, List.nodup_cons] at this
        exact this.1 (by rw [← e]; exact List.mem_map_of_mem hq)
      refine wpAny_bind (wpAny_onRaise ?_)
      show wpAny _ _ (Builtin.SmallTypes.nextOf (.ref r.it) >>= _) _ _ _
      cases hx : r.xs[k]? with
      | none =>
        refine wpAny_bind (nextOf_end (hE.resolve_right fun q => by obtain ⟨x, q⟩ := q r hmem; rw [hx] at q; cases q) (Z.due r (by simp)) (Z.src r hmem) hx fun h₂ e hs₂ he => ?_)
        obtain ⟨oe, hoe, hce⟩ := he
        have hz₂ : IsZip h₂ z TI TO .ellipsis := hs₂ _ _ d1.symm Z.zip
        have hez : e ≠ z := fun x => by subst x; rw [hz₂] at hoe; cases hoe; simp at hce
        refine wpAny_setField_rec hz₂ (by simp) fun h₃ _ hs₃ => hX ⟨r, hmem, hx⟩ h₃ e (fun c o c1 c2 c3 x => hs₃.extBut _ _ c1 (hs₂ _ _ (c3 r hmem) (Z.keep _ _ c1 c2 c3 x))) ⟨oe, hs₃.extBut _ _ hez hoe, hce⟩
      | some y =>
        refine wpAny_bind (nextOf_item (Z.due r (by simp)) (Z.src r hmem) hx fun h₂ h1₂ hs₂ => wpAny_pure ?_)
        obtain ⟨vs, hvl, hTOv⟩ := Z.own
        cases vs with
        | nil => simp at hvl
        | cons v vs =>
          have hTO₂ : IsTupV h₂ TO (pre.map (fun r => r.xs[k]?.getD .none) ++ v :: vs) := hs₂.extBut _ _ d3.symm hTOv
          have hlen : (pre.map (fun r : ZRow => r.xs[k]?.getD .none) ++ v :: vs).length ≤ sizeLine := by
            have e := congrArg List.length Z.all
            rw [List.length_append] at e
            rw [List.length_append, List.length_map, hvl]
            exact hsl (by omega)
          refine wpAny_bind (wpAny_seqItems hTO₂ rfl ?_)
          refine wpAny_bind (updateSeq_tup hTO₂ hlen fun h₃ hTO₃ hs₃ => ?_)
          refine wpAny_bind (wpAny_letGo (wpAny_pure ?_))
          refine ⟨rfl, pre ++ [r], post, h₃, by simp, rfl, ?_⟩
          have up : ∀ c o, c ≠ TO → c ≠ r.it → h'.get? c = some o → h₃.get? c = some o := fun c o c1 c2 e => hs₃.extBut _ _ c1 (hs₂.extBut _ _ c2 e)
          refine ⟨by rw [Z.all]; simp, up _ _ D.TOz.symm d1.symm Z.zip, ⟨vs, by simpa using hvl, ?_⟩, fun q hq => ?_, fun q hq => ?_, fun q hq => ?_, by rw [hs₃.1, hs₂.1, Z.size], fun c o c1 c2 c3 e => up c o c2 (c3 r hmem) (Z.keep c o c1 c2 c3 e)⟩
          · have e : (pre.map (fun r : ZRow => r.xs[k]?.getD .none) ++ v :: vs).set pre.length y = (pre ++ [r]).map (fun r : ZRow => r.xs[k]?.getD .none) ++ vs := by
              rw [List.set_append_right _ _ (by simp)]
              simp [hx]
            rw [← e]
            exact hTO₃
          · rcases List.mem_append.mp hq with hq | hq
            · obtain ⟨g1, g2⟩ := Z.got q hq
              exact ⟨g1.at fun o => up _ o (D.it q (by rw [Z.all]; exact List.mem_append_left _ hq)).2.2 (nep q hq), g2⟩
            · rw [List.mem_singleton] at hq
              subst hq
              exact ⟨h1₂.at fun o => hs₃.extBut _ o d3, y, hx⟩
          · exact (Z.due q (by simp [hq])).at fun o => up _ o (D.it q (by rw [Z.all]; simp [hq])).2.2 (neq q hq)
          · exact (Z.src q hq).at fun o => up _ o (D.src q hq).2.1 ((D.src q hq).2.2 r hmem)
  · rintro b s' ⟨hb, pre, post, h₅, hr, rfl, Z⟩
    have hp : post = [] := by
      cases post with
      | nil => rfl
      | cons _ _ => rw [List.map_cons, List.zipIdx_cons] at hr; cases hr
    subst hp
    have ha : rows = pre := by rw [Z.all, List.append_nil]
    subst ha
    obtain ⟨vs, hvl, hTO₅⟩ := Z.own
    have ev : vs = [] := List.length_eq_zero_iff.mp hvl
    subst ev
    rw [List.append_nil] at hTO₅
    rw [hb]
    refine wpAny_bind (wpAny_seqItems hTO₅ rfl ?_)
    refine wpAny_bind (wpAny_newTuple ?_ (by simp; exact hsl hl))
    have hz₅ := Z.zip
    have hsz := Z.size
    have hzlt : z < h₅.objs.size := Heap.lt_size hz₅
    show wpAny _ _ (Builtin.SmallTypes.ownedTupleHandOut (.ref z) (.ref h₅.objs.size) >>= _) _ _ _
    refine wpAny_bind ?_
    unfold Builtin.SmallTypes.ownedTupleHandOut
    generalize hvs : rows.map (fun r : ZRow => r.xs[k]?.getD .none) = us at hTO₅ ⊢
    have hz₆ : IsZip (h₅.push { cls := .type "tuple", data := .seq us.toArray.toList.toArray }) z TI TO .ellipsis := Heap.get?_push_of_some _ hz₅
    refine wpAny_bind (wpAny_setField_rec hz₆ (by simp) fun h₇ hz₇ hs₇ => ?_)
    replace hz₇ : IsZip h₇ z TI TO (rawInt h₅.objs.size) := hz₇
    refine wpAny_setField_rec hz₇ (by simp) fun h₈ hz₈ hs₈ => ?_
    replace hz₈ : IsZip h₈ z TI TO (rawInt h₅.objs.size) := hz₈
    have up : ∀ c o, c ≠ z → h₅.get? c = some o → h₈.get? c = some o := fun c o c1 e => hs₈.extBut _ _ c1 (hs₇.extBut _ _ c1 (Heap.get?_push_of_some _ e))
    have hT₈ : IsTupV h₈ h₅.objs.size us := hs₈.extBut _ _ (Nat.ne_of_gt hzlt) (hs₇.extBut _ _ (Nat.ne_of_gt hzlt) (Heap.get?_push_size _ rfl))
    have hz8 : h₈.objs.size = h₅.objs.size + 1 := by rw [hs₈.1, hs₇.1, Heap.size_push]
    rw [hsz] at hz₈ hT₈ hz8
    refine wpAny_pure ?_
    show Q (.done (.ret (.ref h₅.objs.size))) _
    rw [hsz]
    refine hQ (fun r hr => (Z.got r hr).2) h₈ hz₈ ⟨us, by rw [← hvs, List.length_map], up _ _ D.TOz hTO₅⟩ (fun r hr => (Z.got r hr).1.at fun o => up _ o (D.it r hr).1) (by rw [hvs]; exact hT₈) hz8 fun c o c1 c2 c3 e => up c o c1 (Z.keep c o c1 c2 c3 e)
  · obtain ⟨vs, hvl, hTOv⟩ := hTO
    exact ⟨rfl, hz₁, ⟨vs, hvl, hs₁.extBut _ _ D.TOz hTOv⟩, fun r hr => (by cases hr), fun r hr => (hit r hr).1.at fun o => hs₁.extBut _ o (D.it r hr).1, fun r hr => (hit r hr).2.at fun o => hs₁.extBut _ o (D.src r hr).1, hs₁.1, fun c o c1 _ _ e => hs₁.extBut _ _ c1 e⟩

theorem pyNext_zipN {z TI TO : Addr} {k : Nat} {rows : List ZRow} {Q : Option Value → Shared → Prop} (D : ZApart z TI TO rows) (hne : rows ≠ []) (hl : rows.length ≤ 100) (hz : IsZip s.heap z TI TO .none) (hTI : IsTupV s.heap TI (rows.map fun r => .ref r.it))
    (hTO : ∃ vs : List Value, vs.length = rows.length ∧ IsTupV s.heap TO vs) (hit : ∀ r ∈ rows, SIt r.t s.heap r.it r.src k ∧ SOb r.t s.heap r.src r.xs)
    (hE : A.handled = none ∨ ∀ r ∈ rows, ∃ x, r.xs[k]? = some x)
    (hQ : (∀ r ∈ rows, ∃ x, r.xs[k]? = some x) → ∀ h', IsZip h' z TI TO (rawInt s.heap.objs.size) → (∃ vs : List Value, vs.length = rows.length ∧ IsTupV h' TO vs) → (∀ r ∈ rows, SIt r.t h' r.it r.src (k + 1)) → IsTupV h' s.heap.objs.size (rows.map fun r => r.xs[k]?.getD .none) →
      h'.objs.size = s.heap.objs.size + 1 → (∀ c o, c ≠ z → c ≠ TO → (∀ r ∈ rows, c ≠ r.it) → s.heap.get? c = some o → h'.get? c = some o) → Q (some (.ref s.heap.objs.size)) { s with heap := h' })
    (hX : (∃ r ∈ rows, r.xs[k]? = none) → ∀ h', (∀ c o, c ≠ z → c ≠ TO → (∀ r ∈ rows, c ≠ r.it) → s.heap.get? c = some o → h'.get? c = some o) → Q none { s with heap := h' }) :
    wpAny (model prog w) A (pyNext (.ref z)) Q E s := by
  have hT : s.TypeIs (.ref z) "zip" := ⟨_, hz, rfl⟩
  unfold pyNext
  refine wpAny_bind (wpAny_attempt (wpAny_callSpecial?_slot (name := Str.ofString "__next__") hT F.slot_zip_next
    (wpAny_call_entry F.slot_zip_next hT F.entry_zip_next (zipN_run D hne hl hz hTI hTO hit hE (fun a h' a1 a2 a3 a4 a5 a6 => ⟨_, rfl, wpAny_pure (hQ a h' a1 a2 a3 a4 a5 a6)⟩) fun a h' e hk he => ?_) (F.args_zip_next_1 _))))
  obtain ⟨o, ho, hc⟩ := he
  refine wpAny_bind (wpAny_isInstance (T := "StopIteration") (b := true) ⟨o, ho, hc⟩ isSubtype_stop ?_)
  exact wpAny_pure (hX a _ hk)
end
abbrev zI2_1 (h : Heap) (t1 : Bool) (l1 : Addr) : Heap := h.push (itO t1 l1)
abbrev zI2_2 (h : Heap) (t1 t2 : Bool) (l1 l2 : Addr) : Heap := (zI2_1 h t1 l1).push (itO t2 l2)
abbrev zA2 (h : Heap) (t1 t2 : Bool) (l1 l2 : Addr) : Heap := (zI2_2 h t1 t2 l1 l2).push { cls := .type "tuple", data := .seq #[.ref h.objs.size, .ref (zI2_1 h t1 l1).objs.size] }
abbrev zB2 (h : Heap) (t1 t2 : Bool) (l1 l2 : Addr) : Heap := (zA2 h t1 t2 l1 l2).push { cls := .type "tuple", data := .seq #[.none, .none] }
abbrev zC2 (h : Heap) (t1 t2 : Bool) (l1 l2 : Addr) : Heap := (zB2 h t1 t2 l1 l2).push { cls := .type "zip", data := .fields #[.none, .bool false, .bool false, .ref (zI2_2 h t1 t2 l1 l2).objs.size, .ref (zA2 h t1 t2 l1 l2).objs.size] }
theorem meets_zip_new2 (t1 t2 : Bool) (l1 l2 : Addr) (xs1 xs2 : Array Value) : Meets (Builtin.«zip.__new__» ⟨[.type "zip", .ref l1, .ref l2], []⟩) (fun _ R s => SOb t1 s.heap l1 xs1 ∧ SOb t2 s.heap l2 xs2 ∧
      R (.ok (.ret (.ref (zB2 s.heap t1 t2 l1 l2).objs.size))) { s with heap := zC2 s.heap t1 t2 l1 l2 }) :=
  .of_wp fun prog w A R s h => by
    obtain ⟨hp, g, d, tk, os⟩ := s; obtain ⟨hl1, hl2, h⟩ := h
    have hsub := sub_zip
    have hL1 : SOb t1 (Shared.heap ⟨hp, g, d, tk, os⟩) l1 xs1 := hl1.at fun o e => e
    have hL2 : SOb t2 (Shared.heap ⟨(zI2_1 hp t1 l1), g, d, tk, os⟩) l2 xs2 := hl2.at fun o e => Heap.get?_push_of_some _ (e)
    wp_walk using pyIter_src hL1, pyIter_src hL2
    exact ⟨_, rfl, h⟩
theorem typeCall_zip2 (a1 a2 : Value) : checkTypeCall "zip" ⟨[a1, a2], []⟩ = pure () := by kernel_rfl
theorem newCall_zip2 (a1 a2 : Value) : checkBuiltinCall "zip.__new__" ⟨[.type "zip", a1, a2], []⟩ = pure () := by kernel_rfl
theorem args_object_init2 (a0 a1 a2 : Value) : argsOk "object.__init__" ⟨[a0, a1, a2], []⟩ := by
  unfold argsOk; rw [signature?_of (id := "object.__init__") (n := ['_', '_', 't', 'i', 'n', 'i', '_', '_']) (o := ['t', 'c', 'e', 'j', 'b', 'o']) (by kernel_rfl) F.owner_object]; kernel_rfl
section
variable {prog : Program} {w : World} {A : Around} {E : Value → Shared → Prop} {s : Shared}
theorem call_zip2 {t1 t2 : Bool} {l1 l2 : Addr} {xs1 xs2 : Array Value} {Q : Value → Shared → Prop} (hl1 : SOb t1 s.heap l1 xs1) (hl2 : SOb t2 s.heap l2 xs2)
    (h : ∀ h', IsZip h' (s.heap.objs.size + 4) (s.heap.objs.size + 2) (s.heap.objs.size + 3) .none → IsTupV h' (s.heap.objs.size + 2) [.ref s.heap.objs.size, .ref (s.heap.objs.size + 1)] → IsTupV h' (s.heap.objs.size + 3) [.none, .none] → SIt t1 h' s.heap.objs.size l1 0 → SIt t2 h' (s.heap.objs.size + 1) l2 0 →
      h'.objs.size = s.heap.objs.size + 5 → (∀ c o, s.heap.get? c = some o → h'.get? c = some o) → Q (.ref (s.heap.objs.size + 4)) { s with heap := h' }) : wpAny (model prog w) A (call (.type "zip") [.ref l1, .ref l2]) Q E s := by
  refine callType_new F.called_zip (by decide) (typeCall_zip2 _ _) (newCall_zip2 _ _) (fun obj => args_object_init2 obj _ _) F.entry_zip_new
    (meets_zip_new2 t1 t2 l1 l2 xs1 xs2) ⟨hl1, hl2, ?_⟩
  have z1 : (zI2_1 s.heap t1 l1).objs.size = s.heap.objs.size + 1 := by rw [Heap.size_push]
  have z2 : (zI2_2 s.heap t1 t2 l1 l2).objs.size = s.heap.objs.size + 2 := by rw [Heap.size_push, z1]
  have zA : (zA2 s.heap t1 t2 l1 l2).objs.size = s.heap.objs.size + 3 := by rw [Heap.size_push, z2]
  have zB : (zB2 s.heap t1 t2 l1 l2).objs.size = s.heap.objs.size + 4 := by rw [Heap.size_push, zA]
  have zC : (zC2 s.heap t1 t2 l1 l2).objs.size = s.heap.objs.size + 5 := by rw [Heap.size_push, zB]
  have gC : (zC2 s.heap t1 t2 l1 l2).get? (zB2 s.heap t1 t2 l1 l2).objs.size = some _ := Heap.get?_push_size _ rfl
  have gB : (zC2 s.heap t1 t2 l1 l2).get? (zA2 s.heap t1 t2 l1 l2).objs.size = some _ := Heap.get?_push_of_some _ (Heap.get?_push_size _ rfl)
  have gA : (zC2 s.heap t1 t2 l1 l2).get? (zI2_2 s.heap t1 t2 l1 l2).objs.size = some _ := Heap.get?_push_of_some _ (Heap.get?_push_of_some _ (Heap.get?_push_size _ rfl))
  have g1 : (zC2 s.heap t1 t2 l1 l2).get? s.heap.objs.size = some (itO t1 l1) := Heap.get?_push_of_some _ (Heap.get?_push_of_some _ (Heap.get?_push_of_some _ (Heap.get?_push_of_some _ (Heap.get?_push_size _ (by cases t1 <;> rfl)))))
  have g2 : (zC2 s.heap t1 t2 l1 l2).get? (zI2_1 s.heap t1 l1).objs.size = some (itO t2 l2) := Heap.get?_push_of_some _ (Heap.get?_push_of_some _ (Heap.get?_push_of_some _ (Heap.get?_push_size _ (by cases t2 <;> rfl))))
  show _ ∧ _
  rw [z2, zA, zB] at gC
  rw [zA] at gB
  rw [z1, z2] at gA
  rw [z1] at g2
  rw [zB]
  exact ⟨⟨_, gC, rfl⟩, h _ gC gA gB (SIt.new g1) (SIt.new g2) zC fun c o x => Heap.get?_push_of_some _ (Heap.get?_push_of_some _ (Heap.get?_push_of_some _ (Heap.get?_push_of_some _ (Heap.get?_push_of_some _ (x)))))⟩
end
abbrev zI3_1 (h : Heap) (t1 : Bool) (l1 : Addr) : Heap := h.push (itO t1 l1)
abbrev zI3_2 (h : Heap) (t1 t2 : Bool) (l1 l2 : Addr) : Heap := (zI3_1 h t1 l1).push (itO t2 l2)
abbrev zI3_3 (h : Heap) (t1 t2 t3 : Bool) (l1 l2 l3 : Addr) : Heap := (zI3_2 h t1 t2 l1 l2).push (itO t3 l3)
abbrev zA3 (h : Heap) (t1 t2 t3 : Bool) (l1 l2 l3 : Addr) : Heap := (zI3_3 h t1 t2 t3 l1 l2 l3).push { cls := .type "tuple", data := .seq #[.ref h.objs.size, .ref (zI3_1 h t1 l1).objs.size, .ref (zI3_2 h t1 t2 l1 l2).objs.size] }
abbrev zB3 (h : Heap) (t1 t2 t3 : Bool) (l1 l2 l3 : Addr) : Heap := (zA3 h t1 t2 t3 l1 l2 l3).push { cls := .type "tuple", data := .seq #[.none, .none, .none] }
abbrev zC3 (h : Heap) (t1 t2 t3 : Bool) (l1 l2 l3 : Addr) : Heap := (zB3 h t1 t2 t3 l1 l2 l3).push { cls := .type "zip", data := .fields #[.none, .bool false, .bool false, .ref (zI3_3 h t1 t2 t3 l1 l2 l3).objs.size, .ref (zA3 h t1 t2 t3 l1 l2 l3).objs.size] }
theorem meets_zip_new3 (t1 t2 t3 : Bool) (l1 l2 l3 : Addr) (xs1 xs2 xs3 : Array Value) : Meets (Builtin.«zip.__new__» ⟨[.type "zip", .ref l1, .ref l2, .ref l3], []⟩) (fun _ R s => SOb t1 s.heap l1 xs1 ∧ SOb t2 s.heap l2 xs2 ∧ SOb t3 s.heap l3 xs3 ∧
      R (.ok (.ret (.ref (zB3 s.heap t1 t2 t3 l1 l2 l3).objs.size))) { s with heap := zC3 s.heap t1 t2 t3 l1 l2 l3 }) :=
  .of_wp fun prog w A R s h => by
    obtain ⟨hp, g, d, tk, os⟩ := s; obtain ⟨hl1, hl2, hl3, h⟩ := h
    have hsub := sub_zip
    have hL1 : SOb t1 (Shared.heap ⟨hp, g, d, tk, os⟩) l1 xs1 := hl1.at fun o e => e
    have hL2 : SOb t2 (Shared.heap ⟨(zI3_1 hp t1 l1), g, d, tk, os⟩) l2 xs2 := hl2.at fun o e => Heap.get?_push_of_some _ (e)
    have hL3 : SOb t3 (Shared.heap ⟨(zI3_2 hp t1 t2 l1 l2), g, d, tk, os⟩) l3 xs3 := hl3.at fun o e => Heap.get?_push_of_some _ (Heap.get?_push_of_some _ (e))
    wp_walk using pyIter_src hL1, pyIter_src hL2, pyIter_src hL3
    exact ⟨_, rfl, h⟩
theorem typeCall_zip3 (a1 a2 a3 : Value) : checkTypeCall "zip" ⟨[a1, a2, a3], []⟩ = pure () := by kernel_rfl
theorem newCall_zip3 (a1 a2 a3 : Value) : checkBuiltinCall "zip.__new__" ⟨[.type "zip", a1, a2, a3], []⟩ = pure () := by kernel_rfl
theorem args_object_init3 (a0 a1 a2 a3 : Value) : argsOk "object.__init__" ⟨[a0, a1, a2, a3], []⟩ := by
  unfold argsOk; rw [signature?_of (id := "object.__init__") (n := ['_', '_', 't', 'i', 'n', 'i', '_', '_']) (o := ['t', 'c', 'e', 'j', 'b', 'o']) (by kernel_rfl) F.owner_object]; kernel_rfl
section
variable {prog : Program} {w : World} {A : Around} {E : Value → Shared → Prop} {s : Shared}
theorem call_zip3 {t1 t2 t3 : Bool} {l1 l2 l3 : Addr} {xs1 xs2 xs3 : Array Value} {Q : Value → Shared → Prop} (hl1 : SOb t1 s.heap l1 xs1) (hl2 : SOb t2 s.heap l2 xs2) (hl3 : SOb t3 s.heap l3 xs3)
    (h : ∀ h', IsZip h' (s.heap.objs.size + 5) (s.heap.objs.size + 3) (s.heap.objs.size + 4) .none → IsTupV h' (s.heap.objs.size + 3) [.ref s.heap.objs.size, .ref (s.heap.objs.size + 1), .ref (s.heap.objs.size + 2)] → IsTupV h' (s.heap.objs.size + 4) [.none, .none, .none] → SIt t1 h' s.heap.objs.size l1 0 → SIt t2 h' (s.heap.objs.size + 1) l2 0 → SIt t3 h' (s.heap.objs.size + 2) l3 0 →
      h'.objs.size = s.heap.objs.size + 6 → (∀ c o, s.heap.get? c = some o → h'.get? c = some o) → Q (.ref (s.heap.objs.size + 5)) { s with heap := h' }) : wpAny (model prog w) A (call (.type "zip") [.ref l1, .ref l2, .ref l3]) Q E s := by
  refine callType_new F.called_zip (by decide) (typeCall_zip3 _ _ _) (newCall_zip3 _ _ _) (fun obj => args_object_init3 obj _ _ _) F.entry_zip_new
    (meets_zip_new3 t1 t2 t3 l1 l2 l3 xs1 xs2 xs3) ⟨hl1, hl2, hl3, ?_⟩
  have z1 : (zI3_1 s.heap t1 l1).objs.size = s.heap.objs.size + 1 := by rw [Heap.size_push]
  have z2 : (zI3_2 s.heap t1 t2 l1 l2).objs.size = s.heap.objs.size + 2 := by rw [Heap.size_push, z1]
  have z3 : (zI3_3 s.heap t1 t2 t3 l1 l2 l3).objs.size = s.heap.objs.size + 3 := by rw [Heap.size_push, z2]
  have zA : (zA3 s.heap t1 t2 t3 l1 l2 l3).objs.size = s.heap.objs.size + 4 := by rw [Heap.size_push, z3]
  have zB : (zB3 s.heap t1 t2 t3 l1 l2 l3).objs.size = s.heap.objs.size + 5 := by rw [Heap.size_push, zA]
  have zC : (zC3 s.heap t1 t2 t3 l1 l2 l3).objs.size = s.heap.objs.size + 6 := by rw [Heap.size_push, zB]
  have gC : (zC3 s.heap t1 t2 t3 l1 l2 l3).get? (zB3 s.heap t1 t2 t3 l1 l2 l3).objs.size = some _ := Heap.get?_push_size _ rfl
  have gB : (zC3 s.heap t1 t2 t3 l1 l2 l3).get? (zA3 s.heap t1 t2 t3 l1 l2 l3).objs.size = some _ := Heap.get?_push_of_some _ (Heap.get?_push_size _ rfl)
  have gA : (zC3 s.heap t1 t2 t3 l1 l2 l3).get? (zI3_3 s.heap t1 t2 t3 l1 l2 l3).objs.size = some _ := Heap.get?_push_of_some _ (Heap.get?_push_of_some _ (Heap.get?_push_size _ rfl))
  have g1 : (zC3 s.heap t1 t2 t3 l1 l2 l3).get? s.heap.objs.size = some (itO t1 l1) := Heap.get?_push_of_some _ (Heap.get?_push_of_some _ (Heap.get?_push_of_some _ (Heap.get?_push_of_some _ (Heap.get?_push_of_some _ (Heap.get?_push_size _ (by cases t1 <;> rfl))))))
  have g2 : (zC3 s.heap t1 t2 t3 l1 l2 l3).get? (zI3_1 s.heap t1 l1).objs.size = some (itO t2 l2) := Heap.get?_push_of_some _ (Heap.get?_push_of_some _ (Heap.get?_push_of_some _ (Heap.get?_push_of_some _ (Heap.get?_push_size _ (by cases t2 <;> rfl)))))
  have g3 : (zC3 s.heap t1 t2 t3 l1 l2 l3).get? (zI3_2 s.heap t1 t2 l1 l2).objs.size = some (itO t3 l3) := Heap.get?_push_of_some _ (Heap.get?_push_of_some _ (Heap.get?_push_of_some _ (Heap.get?_push_size _ (by cases t3 <;> rfl))))
  show _ ∧ _
  rw [z3, zA, zB] at gC
  rw [zA] at gB
  rw [z1, z2, z3] at gA
  rw [z1] at g2
  rw [z2] at g3
  rw [zB]
  exact ⟨⟨_, gC, rfl⟩, h _ gC gA gB (SIt.new g1) (SIt.new g2) (SIt.new g3) zC fun c o x => Heap.get?_push_of_some _ (Heap.get?_push_of_some _ (Heap.get?_push_of_some _ (Heap.get?_push_of_some _ (Heap.get?_push_of_some _ (Heap.get?_push_of_some _ (x))))))⟩
end
abbrev zI4_1 (h : Heap) (t1 : Bool) (l1 : Addr) : Heap := h.push (itO t1 l1)
abbrev zI4_2 (h : Heap) (t1 t2 : Bool) (l1 l2 : Addr) : Heap := (zI4_1 h t1 l1).push (itO t2 l2)
abbrev zI4_3 (h : Heap) (t1 t2 t3 : Bool) (l1 l2 l3 : Addr) : Heap := (zI4_2 h t1 t2 l1 l2).push (itO t3 l3)
abbrev zI4_4 (h : Heap) (t1 t2 t3 t4 : Bool) (l1 l2 l3 l4 : Addr) : Heap := (zI4_3 h t1 t2 t3 l1 l2 l3).push (itO t4 l4)
abbrev zA4 (h : Heap) (t1 t2 t3 t4 : Bool) (l1 l2 l3 l4 : Addr) : Heap := (zI4_4 h t1 t2 t3 t4 l1 l2 l3 l4).push { cls := .type "tuple", data := .seq #[.ref h.objs.size, .ref (zI4_1 h t1 l1).objs.size, .ref (zI4_2 h t1 t2 l1 l2).objs.size, .ref (zI4_3 h t1 t2 t3 l1 l2 l3).objs.size] }
abbrev zB4 (h : Heap) (t1 t2 t3 t4 : Bool) (l1 l2 l3 l4 : Addr) : Heap := (zA4 h t1 t2 t3 t4 l1 l2 l3 l4).push { cls := .type "tuple", data := .seq #[.none, .none, .none, .none] }
abbrev zC4 (h : Heap) (t1 t2 t3 t4 : Bool) (l1 l2 l3 l4 : Addr) : Heap := (zB4 h t1 t2 t3 t4 l1 l2 l3 l4).push { cls := .type "zip", data := .fields #[.none, .bool false, .bool false, .ref (zI4_4 h t1 t2 t3 t4 l1 l2 l3 l4).objs.size, .ref (zA4 h t1 t2 t3 t4 l1 l2 l3 l4).objs.size] }
theorem meets_zip_new4 (t1 t2 t3 t4 : Bool) (l1 l2 l3 l4 : Addr) (xs1 xs2 xs3 xs4 : Array Value) : Meets (Builtin.«zip.__new__» ⟨[.type "zip", .ref l1, .ref l2, .ref l3, .ref l4], []⟩) (fun _ R s => SOb t1 s.heap l1 xs1 ∧ SOb t2 s.heap l2 xs2 ∧ SOb t3 s.heap l3 xs3 ∧ SOb t4 s.heap l4 xs4 ∧
      R (.ok (.ret (.ref (zB4 s.heap t1 t2 t3 t4 l1 l2 l3 l4).objs.size))) { s with heap := zC4 s.heap t1 t2 t3 t4 l1 l2 l3 l4 }) :=
  .of_wp fun prog w A R s h => by
    obtain ⟨hp, g, d, tk, os⟩ := s; obtain ⟨hl1, hl2, hl3, hl4, h⟩ := h
    have hsub := sub_zip
    have hL1 : SOb t1 (Shared.heap ⟨hp, g, d, tk, os⟩) l1 xs1 := hl1.at fun o e => e
    have hL2 : SOb t2 (Shared.heap ⟨(zI4_1 hp t1 l1), g, d, tk, os⟩) l2 xs2 := hl2.at fun o e => Heap.get?_push_of_some _ (e)
    have hL3 : SOb t3 (Shared.heap ⟨(zI4_2 hp t1 t2 l1 l2), g, d, tk, os⟩) l3 xs3 := hl3.at fun o e => Heap.get?_push_of_some _ (Heap.get?_push_of_some _ (e))
    have hL4 : SOb t4 (Shared.heap ⟨(zI4_3 hp t1 t2 t3 l1 l2 l3), g, d, tk, os⟩) l4 xs4 := hl4.at fun o e => Heap.get?_push_of_some _ (Heap.get?_push_of_some _ (Heap.get?_push_of_some _ (e)))
    wp_walk using pyIter_src hL1, pyIter_src hL2, pyIter_src hL3, pyIter_src hL4
    exact ⟨_, rfl, h⟩
theorem typeCall_zip4 (a1 a2 a3 a4 : Value) : checkTypeCall "zip" ⟨[a1, a2, a3, a4], []⟩ = pure () := by kernel_rfl
theorem newCall_zip4 (a1 a2 a3 a4 : Value) : checkBuiltinCall "zip.__new__" ⟨[.type "zip", a1, a2, a3, a4], []⟩ = pure () := by kernel_rfl
theorem args_object_init4 (a0 a1 a2 a3 a4 : Value) : argsOk "object.__init__" ⟨[a0, a1, a2, a3, a4], []⟩ := by
  unfold argsOk; rw [signature?_of (id := "object.__init__") (n := ['_', '_', 't', 'i', 'n', 'i', '_', '_']) (o := ['t', 'c', 'e', 'j', 'b', 'o']) (by kernel_rfl) F.owner_object]; kernel_rfl
section
variable {prog : Program} {w : World} {A : Around} {E : Value → Shared → Prop} {s : Shared}
theorem call_zip4 {t1 t2 t3 t4 : Bool} {l1 l2 l3 l4 : Addr} {xs1 xs2 xs3 xs4 : Array Value} {Q : Value → Shared → Prop} (hl1 : SOb t1 s.heap l1 xs1) (hl2 : SOb t2 s.heap l2 xs2) (hl3 : SOb t3 s.heap l3 xs3) (hl4 : SOb t4 s.heap l4 xs4)
    (h : ∀ h', IsZip h' (s.heap.objs.size + 6) (s.heap.objs.size + 4) (s.heap.objs.size + 5) .none → IsTupV h' (s.heap.objs.size + 4) [.ref s.heap.objs.size, .ref (s.heap.objs.size + 1), .ref (s.heap.objs.size + 2), .ref (s.heap.objs.size + 3)] → IsTupV h' (s.heap.objs.size + 5) [.none, .none, .none, .none] → SIt t1 h' s.heap.objs.size l1 0 → SIt t2 h' (s.heap.objs.size + 1) l2 0 → SIt t3 h' (s.heap.objs.size + 2) l3 0 → SIt t4 h' (s.heap.objs.size + 3) l4 0 →
      h'.objs.size = s.heap.objs.size + 7 → (∀ c o, s.heap.get? c = some o → h'.get? c = some o) → Q (.ref (s.heap.objs.size + 6)) { s with heap := h' }) : wpAny (model prog w) A (call (.type "zip") [.ref l1, .ref l2, .ref l3, .ref l4]) Q E s := by
  refine callType_new F.called_zip (by decide) (typeCall_zip4 _ _ _ _) (newCall_zip4 _ _ _ _) (fun obj => args_object_init4 obj _ _ _ _) F.entry_zip_new
    (meets_zip_new4 t1 t2 t3 t4 l1 l2 l3 l4 xs1 xs2 xs3 xs4) ⟨hl1, hl2, hl3, hl4, ?_⟩
  have z1 : (zI4_1 s.heap t1 l1).objs.size = s.heap.objs.size + 1 := by rw [Heap.size_push]
  have z2 : (zI4_2 s.heap t1 t2 l1 l2).objs.size = s.heap.objs.size + 2 := by rw [Heap.size_push, z1]
  have z3 : (zI4_3 s.heap t1 t2 t3 l1 l2 l3).objs.size = s.heap.objs.size + 3 := by rw [Heap.size_push, z2]
  have z4 : (zI4_4 s.heap t1 t2 t3 t4 l1 l2 l3 l4).objs.size = s.heap.objs.size + 4 := by rw [Heap.size_push, z3]
  have zA : (zA4 s.heap t1 t2 t3 t4 l1 l2 l3 l4).objs.size = s.heap.objs.size + 5 := by rw [Heap.size_push, z4]
  have zB : (zB4 s.heap t1 t2 t3 t4 l1 l2 l3 l4).objs.size = s.heap.objs.size + 6 := by rw [Heap.size_push, zA]
  have zC : (zC4 s.heap t1 t2 t3 t4 l1 l2 l3 l4).objs.size = s.heap.objs.size + 7 := by rw [Heap.size_push, zB]
  have gC : (zC4 s.heap t1 t2 t3 t4 l1 l2 l3 l4).get? (zB4 s.heap t1 t2 t3 t4 l1 l2 l3 l4).objs.size = some _ := Heap.get?_push_size _ rfl
  have gB : (zC4 s.heap t1 t2 t3 t4 l1 l2 l3 l4).get? (zA4 s.heap t1 t2 t3 t4 l1 l2 l3 l4).objs.size = some _ := Heap.get?_push_of_some _ (Heap.get?_push_size _ rfl)
  have gA : (zC4 s.heap t1 t2 t3 t4 l1 l2 l3 l4).get? (zI4_4 s.heap t1 t2 t3 t4 l1 l2 l3 l4).objs.size = some _ := Heap.get?_push_of_some _ (Heap.get?_push_of_some _ (Heap.get?_push_size _ rfl))
  have g1 : (zC4 s.heap t1 t2 t3 t4 l1 l2 l3 l4).get? s.heap.objs.size = some (itO t1 l1) := Heap.get?_push_of_some _ (Heap.get?_push_of_some _ (Heap.get?_push_of_some _ (Heap.get?_push_of_some _ (Heap.get?_push_of_some _ (Heap.get?_push_of_some _ (Heap.get?_push_size _ (by cases t1 <;> rfl)))))))
  have g2 : (zC4 s.heap t1 t2 t3 t4 l1 l2 l3 l4).get? (zI4_1 s.heap t1 l1).objs.size = some (itO t2 l2) := Heap.get?_push_of_some _ (Heap.get?_push_of_some _ (Heap.get?_push_of_some _ (Heap.get?_push_of_some _ (Heap.get?_push_of_some _ (Heap.get?_push_size _ (by cases t2 <;> rfl))))))
  have g3 : (zC4 s.heap t1 t2 t3 t4 l1 l2 l3 l4).get? (zI4_2 s.heap t1 t2 l1 l2).objs.size = some (itO t3 l3) := Heap.get?_push_of_some _ (Heap.get?_push_of_some _ (Heap.get?_push_of_some _ (Heap.get?_push_of_some _ (Heap.get?_push_size _ (by cases t3 <;> rfl)))))
  have g4 : (zC4 s.heap t1 t2 t3 t4 l1 l2 l3 l4).get? (zI4_3 s.heap t1 t2 t3 l1 l2 l3).objs.size = some (itO t4 l4) := Heap.get?_push_of_some _ (Heap.get?_push_of_some _ (Heap.get?_push_of_some _ (Heap.get?_push_size _ (by cases t4 <;> rfl))))
  show _ ∧ _
  rw [z4, zA, zB] at gC
  rw [zA] at gB
  rw [z1, z2, z3, z4] at gA
  rw [z1] at g2
  rw [z2] at g3
  rw [z3] at g4
  rw [zB]
  exact ⟨⟨_, gC, rfl⟩, h _ gC gA gB (SIt.new g1) (SIt.new g2) (SIt.new g3) (SIt.new g4) zC fun c o x => Heap.get?_push_of_some _ (Heap.get?_push_of_some _ (Heap.get?_push_of_some _ (Heap.get?_push_of_some _ (Heap.get?_push_of_some _ (Heap.get?_push_of_some _ (Heap.get?_push_of_some _ (x)))))))⟩
end
end Ev

set_option maxHeartbeats 1000000
namespace Ev
open PySem PySem.Spec PyProof.Rows L2
set_option autoImplicit false
def SqB (t : Bool) (K : PySem.W.Frag) (H : Hp) (a : Addr) (xs : List V) : Prop := match t with
  | false => SqL K H a xs
  | true => SqT K H a xs
section
variable {X : Cx} {pins : List (Addr × Obj)} {σ : L2.St} {H : Hp} {s : Shared}
theorem sqB_ob {t : Bool} {a : Addr} {xs : List V} (I : Inv X pins σ H s) (h : SqB t X.K H a xs) : ∃ its : List Value, Vals xs its ∧ SOb t s.heap a its.toArray := by
  cases t with
  | false => obtain ⟨its, rv, p, _⟩ := I.list h; exact ⟨its, rv, p.isList⟩
  | true => obtain ⟨its, rv, p, _⟩ := I.tuple h; exact ⟨its, rv, p⟩
theorem sqB_inj {t : Bool} {a : Addr} {xs ys : List V} (I : Inv X pins σ H s) (h : SqB t X.K H a xs) (h2 : SqB t X.K H a ys) : xs = ys := by
  cases t with
  | false => exact I.list_inj h h2
  | true => exact I.tuple_inj h h2
end
def ZY (K : PySem.W.Frag) (H : Hp) (i : Nat) : List (Bool × Addr) → List V → Prop
  | [], [] => True
  | r :: rs, v :: vs => (∀ xs, SqB r.1 K H r.2 xs → xs[i]? = some v) ∧ ZY K H i rs vs
  | _, _ => False
def ItzN (K : PySem.W.Frag) (rows : List (Bool × Addr)) : It :=
  ⟨fun i H => ∀ r ∈ rows, ∃ xs x, SqB r.1 K H r.2 xs ∧ xs[i]? = some x,
    fun i H v H' => ∃ T vs, v = .ref T ∧ H T = none ∧ H' = upd H T (.tup vs) ∧ ZY K H i rows vs,
    fun i H => (∀ r ∈ rows, ∃ xs, SqB r.1 K H r.2 xs) ∧ ∃ r ∈ rows, ∃ xs, SqB r.1 K H r.2 xs ∧ xs.length ≤ i⟩
/-- kind, source, iterator -/
abbrev ZKey := Bool × Addr × Addr
def ZRow.key (r : ZRow) : ZKey := (r.t, r.src, r.it)
structure ZAp (z TI TO : Addr) (zr : List ZKey) : Prop where
  TIz : TI ≠ z
  TOz : TO ≠ z
  TITO : TI ≠ TO
  it : ∀ r ∈ zr, r.2.2 ≠ z ∧ r.2.2 ≠ TI ∧ r.2.2 ≠ TO
  src : ∀ r ∈ zr, r.2.1 ≠ z ∧ r.2.1 ≠ TO ∧ ∀ r' ∈ zr, r.2.1 ≠ r'.2.2
  nd : (zr.map fun r => r.2.2).Nodup
theorem ZAp.rows {z TI TO : Addr} {zr : List ZKey} (D : ZAp z TI TO zr) {rows : List ZRow} (e : rows.map ZRow.key = zr) : ZApart z TI TO rows := by
  subst e
  refine ⟨D.TIz, D.TOz, D.TITO, fun r hr => D.it r.key (List.mem_map_of_mem hr), fun r hr => ?_, ?_⟩
  · obtain ⟨a, b, c⟩ := D.src r.key (List.mem_map_of_mem hr)
    exact ⟨a, b, fun r' hr' => c r'.key (List.mem_map_of_mem hr')⟩
  · have := D.nd
    rw [List.map_map] at this
    exact this
section
variable {X : Cx} {pins : List (Addr × Obj)} {σ : L2.St} {H : Hp} {s : Shared}
theorem rows_go (I : Inv X pins σ H s) (i : Nat) : ∀ zr : List ZKey, (∀ r ∈ zr, ∃ xs x, SqB r.1 X.K H r.2.1 xs ∧ xs[i]? = some x) →
    ∃ (rows : List ZRow) (vs : List V), rows.map ZRow.key = zr ∧ (∀ r ∈ rows, SOb r.t s.heap r.src r.xs ∧ ∃ u, r.xs[i]? = some u) ∧ Vals vs (rows.map fun r => r.xs[i]?.getD .none) ∧ ZY X.K H i (zr.map fun r => (r.1, r.2.1)) vs
  | [], _ => ⟨[], [], rfl, (fun r hr => by cases hr), .nil, True.intro⟩
  | r :: zr, h => by
    obtain ⟨rows, vs, e, h1, h2, h3⟩ := rows_go I i zr fun q hq => h q (List.mem_cons_of_mem _ hq)
    obtain ⟨xs, x, hq, hx⟩ := h r (List.mem_cons_self ..)
    obtain ⟨its, rv, p⟩ := sqB_ob I hq
    obtain ⟨u, hu, ru⟩ := rv.get hx
    have hu' : its.toArray[i]? = some u := by simpa using hu
    refine ⟨⟨r.1, r.2.2, r.2.1, its.toArray⟩ :: rows, x :: vs, by rw [List.map_cons, e]; rfl, fun q hq => ?_, ?_, fun ys hy => by rw [sqB_inj I hy hq]; exact hx, h3⟩
    · rcases List.mem_cons.mp hq with rfl | hq
      · exact ⟨p, u, hu'⟩
      · exact h1 q hq
    · rw [List.map_cons]
      refine .cons ?_ h2
      show RelV x (its.toArray[i]?.getD .none)
      rw [hu']
      exact ru
theorem rows_stop (I : Inv X pins σ H s) : ∀ zr : List ZKey, (∀ r ∈ zr, ∃ xs, SqB r.1 X.K H r.2.1 xs) → ∃ rows : List ZRow, rows.map ZRow.key = zr ∧ ∀ r ∈ rows, SOb r.t s.heap r.src r.xs ∧ ∀ xs, SqB r.t X.K H r.src xs → r.xs.size = xs.length
  | [], _ => ⟨[], rfl, fun r hr => by cases hr⟩
  | r :: zr, h => by
    obtain ⟨rows, e, h1⟩ := rows_stop I zr fun q hq => h q (List.mem_cons_of_mem _ hq)
    obtain ⟨xs, hq⟩ := h r (List.mem_cons_self ..)
    obtain ⟨its, rv, p⟩ := sqB_ob I hq
    refine ⟨⟨r.1, r.2.2, r.2.1, its.toArray⟩ :: rows, by rw [List.map_cons, e]; rfl, fun q hm => ?_⟩
    rcases List.mem_cons.mp hm with rfl | hm
    · exact ⟨p, fun ys hy => by rw [sqB_inj I hy hq, rv.length]; simp⟩
    · exact h1 q hm
end
theorem turn_zipN {P : Program} {w : World} {K : PySem.W.Frag} {elts : List Expr} {kk : Nat} {tpos : Pos} {z TI TO : Addr} {zr : List ZKey} (D : ZAp z TI TO zr) (hne : zr ≠ []) (hl : zr.length ≤ 100) :
    Turn P w K (.Tuple elts kk tpos) (ItzN K (zr.map fun r => (r.1, r.2.1))) (z :: TI :: TO :: zr.map fun r => r.2.2) z (fun i h => IsZip h z TI TO .none ∧ IsTupV h TI (zr.map fun r => .ref r.2.2) ∧ (∃ vs : List Value, vs.length = zr.length ∧ IsTupV h TO vs) ∧ ∀ r ∈ zr, SIt r.1 h r.2.2 r.2.1 i) where
  mem := by simp
  obj := fun i h st c hc => by
    obtain ⟨hz, hTI, ⟨vs, _, hTO⟩, hi⟩ := st
    rcases List.mem_cons.mp hc with q | hc
    · rw [q]; exact ⟨_, hz, fun v q => nomatch q⟩
    rcases List.mem_cons.mp hc with q | hc
    · rw [q]; exact ⟨_, hTI, fun v q => nomatch q⟩
    rcases List.mem_cons.mp hc with q | hc
    · rw [q]; exact ⟨_, hTO, fun v q => nomatch q⟩
    obtain ⟨r, hr, rfl⟩ := List.mem_map.mp hc
    exact (hi r hr).obj
  keep := fun i h h' st k => by
    obtain ⟨hz, hTI, ⟨vs, hv, hTO⟩, hi⟩ := st
    exact ⟨k z (by simp) _ hz, k TI (by simp) _ hTI, ⟨vs, hv, k TO (by simp) _ hTO⟩, fun r hr => (hi r hr).at fun o q => k r.2.2 (List.mem_cons_of_mem _ (List.mem_cons_of_mem _ (List.mem_cons_of_mem _ (List.mem_map_of_mem (f := fun r : ZKey => r.2.2) hr)))) o q⟩
  item := by
    intro X hP hw hK hc i pins s σ H E I hf st hg
    subst hP hw hK
    obtain ⟨hz, hTI, hTO, hi⟩ := st
    obtain ⟨rows, vs, e, h1, h2, h3⟩ := rows_go I i zr fun r hr => hg (r.1, r.2.1) (List.mem_map_of_mem (f := fun r : ZKey => (r.1, r.2.1)) hr)
    have hlen : rows.length = zr.length := by rw [← e, List.length_map]
    have kin : ∀ r ∈ rows, r.key ∈ zr := fun r hr => by rw [← e]; exact List.mem_map_of_mem hr
    have hzl : z < s.heap.objs.size := Heap.lt_size hz
    have eits : (rows.map fun r : ZRow => Value.ref r.it) = zr.map fun r => Value.ref r.2.2 := by rw [← e, List.map_map]; rfl
    refine pyNext_zipN (D.rows e) (by rintro rfl; exact hne (by rw [← e]; rfl)) (by rw [hlen]; exact hl) hz (by rw [eits]; exact hTI) (by rw [hlen]; exact hTO) (fun r hr => ⟨hi r.key (kin r hr), (h1 r hr).1⟩) (.inr fun r hr => (h1 r hr).2)
      (fun _ h' z' TO' it' hT hsz hk => ?_) (fun ⟨r, hr, hn⟩ => by obtain ⟨u, hu⟩ := (h1 r hr).2; rw [hn] at hu; cases hu)
    refine ⟨_, rfl, wpAny_letOwnedTupleGo_zip (s := { s with heap := h' }) z' fun h'' z'' sb => ?_⟩
    have hT2 : IsTupV h'' s.heap.objs.size (rows.map fun r => r.xs[i]?.getD .none) := (sb.2 _ (Nat.ne_of_gt hzl)).trans hT
    have hvl : vs.length ≤ sizeLine := by
      rw [h2.length, List.length_map, hlen]
      unfold sizeLine
      omega
    have new : ObjOk X.prog X.w (upd H s.heap.objs.size (.tup vs)) h'' s.heap.objs.size (.tup vs) := ⟨hvl, _, h2, ⟨_, hT2, rfl, _, rfl⟩⟩
    have inits : ∀ c : Addr, c ∉ (z :: TI :: TO :: zr.map fun r => r.2.2) → c ≠ z ∧ c ≠ TO ∧ ∀ r ∈ rows, c ≠ r.it := fun c hn => by
      refine ⟨fun q => hn (by simp [q]), fun q => hn (by simp [q]), fun r hr q => hn ?_⟩
      rw [q]
      exact List.mem_cons_of_mem _ (List.mem_cons_of_mem _ (List.mem_cons_of_mem _ (List.mem_map_of_mem (f := fun r : ZKey => r.2.2) (kin r hr))))
    have I1 : Inv X pins σ (upd H s.heap.objs.size (.tup vs)) { s with heap := h'' } :=
      I.turnedNew (t' := s.toks) (ch := z :: TI :: TO :: zr.map fun r => r.2.2) (fun c o hb q => (sb.2 c (inits c hb).1).trans (hk c o (inits c hb).1 (inits c hb).2.1 (inits c hb).2.2 q)) hf (Nat.le_refl _) new
    refine ⟨.ref s.heap.objs.size, _, I1, rfl, ⟨_, vs, rfl, I.hok.fresh (Nat.le_refl _), rfl, h3⟩, ⟨z'', ?_, ?_, fun r hr => ?_⟩, fun c hcm => ?_⟩
    · exact (sb.2 _ D.TIz).trans (hk _ _ D.TIz D.TITO (fun r hr q => (D.it r.key (kin r hr)).2.1 q.symm) hTI)
    · obtain ⟨us, hu, ho⟩ := TO'
      exact ⟨us, by rw [hu, hlen], (sb.2 _ D.TOz).trans ho⟩
    · rw [← e] at hr
      obtain ⟨q, hq, rfl⟩ := List.mem_map.mp hr
      exact (it' q hq).at fun o u => (sb.2 _ (D.it q.key (kin q hq)).1).trans u
    · have hlt : c < s.heap.objs.size := by
        rcases List.mem_cons.mp hcm with q | hcm
        · rw [q]; exact hzl
        rcases List.mem_cons.mp hcm with q | hcm
        · rw [q]; exact Heap.lt_size hTI
        rcases List.mem_cons.mp hcm with q | hcm
        · obtain ⟨_, _, ho⟩ := hTO
          rw [q]; exact Heap.lt_size ho
        obtain ⟨r, hr, rfl⟩ := List.mem_map.mp hcm
        obtain ⟨o, ho, _⟩ := (hi r hr).obj
        exact Heap.lt_size ho
      rw [upd_ne (Nat.ne_of_lt hlt)]
      exact (hf c hcm).1
  done := by
    intro X hP hw hK hc i pins s σ H E I hf st hg
    subst hP hw hK
    obtain ⟨hz, hTI, hTO, hi⟩ := st
    obtain ⟨hall, rk, hrk, xs, hxs, hend⟩ := hg
    obtain ⟨rows, e, h1⟩ := rows_stop I zr fun r hr => hall (r.1, r.2.1) (List.mem_map_of_mem (f := fun r : ZKey => (r.1, r.2.1)) hr)
    have hlen : rows.length = zr.length := by rw [← e, List.length_map]
    have kin : ∀ r ∈ rows, r.key ∈ zr := fun r hr => by rw [← e]; exact List.mem_map_of_mem hr
    have eits : (rows.map fun r : ZRow => Value.ref r.it) = zr.map fun r => Value.ref r.2.2 := by rw [← e, List.map_map]; rfl
    have ends : ∃ r ∈ rows, r.xs[i]? = none := by
      obtain ⟨r, hr, er⟩ := List.mem_map.mp hrk
      rw [← e] at hr
      obtain ⟨q, hq, rfl⟩ := List.mem_map.mp hr
      refine ⟨q, hq, ?_⟩
      have := (h1 q hq).2 xs (by rw [← er] at hxs; exact hxs)
      exact Array.getElem?_eq_none (by omega)
    refine pyNext_zipN (D.rows e) (by rintro rfl; exact hne (by rw [← e]; rfl)) (by rw [hlen]; exact hl) hz (by rw [eits]; exact hTI) (by rw [hlen]; exact hTO) (fun r hr => ⟨hi r.key (kin r hr), (h1 r hr).1⟩) (.inl (I.ok.hd hc))
      (fun ha => by obtain ⟨r, hr, hn⟩ := ends; obtain ⟨u, hu⟩ := ha r hr; rw [hn] at hu; cases hu) (fun _ h' hk => ⟨rfl, I.turnedL (t' := s.toks) (ch := z :: TI :: TO :: zr.map fun r => r.2.2) (fun c o hb q => ?_) hf⟩)
    refine hk c o (fun q => hb (by simp [q])) (fun q => hb (by simp [q])) (fun r hr q => hb ?_) q
    rw [q]
    exact List.mem_cons_of_mem _ (List.mem_cons_of_mem _ (List.mem_cons_of_mem _ (List.mem_map_of_mem (f := fun r : ZKey => r.2.2) (kin r hr))))
  self := fun A i s Q E st h => wpAny_pyIter_zip st.1 h
def iZipN (K : PySem.W.Frag) (ta : TA) : TI := fun σ H R => ta σ H fun vs H1 => ∃ rows : List (Bool × Addr), vs = rows.map (fun r => V.ref r.2) ∧ 2 ≤ rows.length ∧ rows.length ≤ 4 ∧ (∀ r ∈ rows, ∃ xs, SqB r.1 K H1 r.2 xs) ∧ R (ItzN K rows) H1
theorem SOb.lt {t : Bool} {h : Heap} {a : Addr} {xs : Array Value} (x : SOb t h a xs) : a < h.objs.size := by
  obtain ⟨o, ho⟩ := x.obj
  exact Heap.lt_size ho
theorem pi_zipN {X : Cx} {e : Expr} {es : List Expr} {ta : TA} {p pos tpos : Pos} {elts : List Expr} {kk : Nat} (hg : Gl X "zip") (hm : X.mg "zip" = none) (ha : PA X (e :: es) ta)
    (hs : starEach (e :: es) X.env = (false, eval e X.env) :: starEach es X.env) (hpl : (backTo pos (starEach es X.env)).any (·.1) = false) :
    PI X (.Tuple elts kk tpos) (.Call (.Name "zip" p) (e :: es) [] pos) (iZipN X.K ta) := by
  refine ⟨fun pins s σ H R I h => ?_⟩
  refine Call_ (ld_blt I hg hm PyProof.Rows.boot_zip (PyProof.Rows.callWith_type1 (thn (ha.run pos pins s σ H _ I h) fun us s1 ⟨vs, H1, I1, r1, q1⟩ => ?_) hs hpl))
  obtain ⟨rows, ev, l2, l4, hsq, q⟩ := q1
  have fin : ∀ (N : Nat) (zr : List ZKey) (h' : Heap), zr.map (fun r => (r.1, r.2.1)) = rows → zr.length = N → (∀ (j : Nat) (r : ZKey), zr[j]? = some r → @Eq Nat r.2.2 (s1.heap.objs.size + j)) → IsZip h' (s1.heap.objs.size + (N + 2)) (s1.heap.objs.size + N) (s1.heap.objs.size + (N + 1)) .none →
      IsTupV h' (s1.heap.objs.size + N) (zr.map fun r => .ref r.2.2) → (∃ vs : List Value, vs.length = N ∧ IsTupV h' (s1.heap.objs.size + (N + 1)) vs) → (∀ r ∈ zr, SIt r.1 h' r.2.2 r.2.1 0) → (∀ c o, s1.heap.get? c = some o → h'.get? c = some o) →
      wpAny (model X.prog X.w) X.A (pyIter (.ref (s1.heap.objs.size + (N + 2)))) (PIE X pins σ (.Tuple elts kk tpos) R) X.xe { s1 with heap := h' } := fun N zr h' ez hN hit hz hTI hTO hi hk => by
    have I2 : Inv X pins σ H1 { s1 with heap := h' } := I1.kept (t' := s1.toks) hk
    have lt : ∀ r ∈ zr, @LE.le Nat _ s1.heap.objs.size r.2.2 ∧ @LT.lt Nat _ r.2.2 (s1.heap.objs.size + N) := fun r hr => by
      obtain ⟨j, hj⟩ := List.mem_iff_getElem?.mp hr
      have := hit j r hj
      have hjl : j < zr.length := (List.getElem?_eq_some_iff.mp hj).1
      omega
    have sl : ∀ r ∈ zr, @LT.lt Nat _ r.2.1 s1.heap.objs.size := fun r hr => by
      obtain ⟨xs, hx⟩ := hsq (r.1, r.2.1) (by rw [← ez]; exact List.mem_map_of_mem (f := fun r : ZKey => (r.1, r.2.1)) hr)
      obtain ⟨its, _, hp⟩ := sqB_ob I1 hx
      exact hp.lt
    have D : ZAp (s1.heap.objs.size + (N + 2)) (s1.heap.objs.size + N) (s1.heap.objs.size + (N + 1)) zr := by
      have nN : ∀ {a b : Nat}, @Ne Nat a b → @Ne Addr a b := fun {a b} h => h
      refine ⟨nN (by omega), nN (by omega), nN (by omega), fun r hr => ?_, fun r hr => ?_, ?_⟩
      · have := lt r hr
        exact ⟨nN (by omega), nN (by omega), nN (by omega)⟩
      · have := sl r hr
        exact ⟨nN (by omega), nN (by omega), fun r' hr' => nN (by have := lt r' hr'; omega)⟩
      · rw [List.nodup_iff_pairwise_ne, List.pairwise_iff_getElem]
        intro i j hi hj hlt
        rw [List.length_map] at hi hj
        rw [List.getElem_map, List.getElem_map]
        have e1 := hit i zr[i] (List.getElem?_eq_getElem hi)
        have e2 := hit j zr[j] (List.getElem?_eq_getElem hj)
        exact nN (by omega)
    refine wpAny_pyIter_zip hz ?_
    have T := turn_zipN (P := X.prog) (w := X.w) (K := X.K) (elts := elts) (kk := kk) (tpos := tpos) D (by rintro rfl; simp at hN; subst hN; rw [← ez] at l2; simp at l2) (by rw [← ez, List.length_map] at l4; omega)
    rw [ez] at T
    refine ⟨_, _, _, _, H1, rfl, I2, T, ⟨hz, hTI, by rw [hN]; exact hTO, hi⟩, fun c hcm => ?_, q⟩
    have hle : s1.heap.objs.size ≤ c := by
      rcases List.mem_cons.mp hcm with q | hcm
      · rw [q]; exact Nat.le_add_right _ _
      rcases List.mem_cons.mp hcm with q | hcm
      · rw [q]; exact Nat.le_add_right _ _
      rcases List.mem_cons.mp hcm with q | hcm
      · rw [q]; exact Nat.le_add_right _ _
      obtain ⟨r, hr, rfl⟩ := List.mem_map.mp hcm
      exact (lt r hr).1
    exact I1.fpOk hle (I1.hok.fresh hle)
  have ob : ∀ r ∈ rows, ∃ its : List Value, SOb r.1 s1.heap r.2 its.toArray := fun r hr => by
    obtain ⟨xs, hx⟩ := hsq r hr
    obtain ⟨its, _, hp⟩ := sqB_ob I1 hx
    exact ⟨its, hp⟩
  match rows, ev, l2, l4, ob, fin with
  | [(t1, a1), (t2, a2)], ev, _, _, ob, fin =>
    subst ev
    obtain ⟨u1, p1⟩ := ob (t1, a1) (by simp)
    obtain ⟨u2, p2⟩ := ob (t2, a2) (by simp)
    cases r1 with | cons r r1 => cases r1 with | cons r' r1 => cases r1; cases r; cases r'; exact call_zip2 p1 p2 fun h' hz hTI hTO h1 h2 _ hk => fin 2 [(t1, a1, s1.heap.objs.size), (t2, a2, s1.heap.objs.size + 1)] h' rfl rfl (fun j r hj => by match j, hj with | 0, hj => cases hj; rfl | 1, hj => cases hj; rfl) hz hTI ⟨_, rfl, hTO⟩ (by simp; exact ⟨h1, h2⟩) hk
  | [(t1, a1), (t2, a2), (t3, a3)], ev, _, _, ob, fin =>
    subst ev
    obtain ⟨u1, p1⟩ := ob (t1, a1) (by simp)
    obtain ⟨u2, p2⟩ := ob (t2, a2) (by simp)
    obtain ⟨u3, p3⟩ := ob (t3, a3) (by simp)
    cases r1 with | cons r r1 => cases r1 with | cons r' r1 => cases r1 with | cons r'' r1 => cases r1; cases r; cases r'; cases r''; exact call_zip3 p1 p2 p3 fun h' hz hTI hTO h1 h2 h3 _ hk => fin 3 [(t1, a1, s1.heap.objs.size), (t2, a2, s1.heap.objs.size + 1), (t3, a3, s1.heap.objs.size + 2)] h' rfl rfl (fun j r hj => by match j, hj with | 0, hj => cases hj; rfl | 1, hj => cases hj; rfl | 2, hj => cases hj; rfl) hz hTI ⟨_, rfl, hTO⟩ (by simp; exact ⟨h1, h2, h3⟩) hk
  | [(t1, a1), (t2, a2), (t3, a3), (t4, a4)], ev, _, _, ob, fin =>
    subst ev
    obtain ⟨u1, p1⟩ := ob (t1, a1) (by simp)
    obtain ⟨u2, p2⟩ := ob (t2, a2) (by simp)
    obtain ⟨u3, p3⟩ := ob (t3, a3) (by simp)
    obtain ⟨u4, p4⟩ := ob (t4, a4) (by simp)
    cases r1 with | cons r r1 => cases r1 with | cons r' r1 => cases r1 with | cons r'' r1 => cases r1 with | cons r3 r1 => cases r1; cases r; cases r'; cases r''; cases r3; exact call_zip4 p1 p2 p3 p4 fun h' hz hTI hTO h1 h2 h3 h4 _ hk => fin 4 [(t1, a1, s1.heap.objs.size), (t2, a2, s1.heap.objs.size + 1), (t3, a3, s1.heap.objs.size + 2), (t4, a4, s1.heap.objs.size + 3)] h' rfl rfl (fun j r hj => by match j, hj with | 0, hj => cases hj; rfl | 1, hj => cases hj; rfl | 2, hj => cases hj; rfl | 3, hj => cases hj; rfl) hz hTI ⟨_, rfl, hTO⟩ (by simp; exact ⟨h1, h2, h3, h4⟩) hk
end Ev

set_option maxHeartbeats 1000000
namespace Ev
open PySem PySem.Spec PyProof.Rows L2
set_option autoImplicit false
/-! ### enumerate -/
theorem SIt.ext {t : Bool} {h h' : Heap} {it a b : Addr} {k : Nat} (x : SIt t h it a k) (hs : Heap.ExtBut b h h') (n : it ≠ b) : SIt t h' it a k := x.at fun o => hs it o n
section
variable {prog : Program} {w : World} {A : Around} {E : Value → Shared → Prop} {s : Shared}
theorem pyNext_enumN {t : Bool} {e it l : Addr} {i : Nat} {items : Array Value} {x old : Value} {Q : Option Value → Shared → Prop}
    (he : IsEnum s.heap e it i old) (hit : SIt t s.heap it l i) (hl : SOb t s.heap l items) (hx : items[i]? = some x) (hne : e ≠ it)
    (hQ : ∀ h', IsEnumOut h' e it ((i : Int) + 1) x s.heap.objs.size → SIt t h' it l (i + 1) →
      h'.get? s.heap.objs.size = some { cls := .type "tuple", data := .seq #[.int i s.toks, x] } → h'.objs.size = s.heap.objs.size + 1 →
      (∀ b o, b ≠ e → b ≠ it → s.heap.get? b = some o → h'.get? b = some o) → Q (some (.ref s.heap.objs.size)) { s with heap := h', toks := s.toks + 1 }) :
    wpAny (model prog w) A (pyNext (.ref e)) Q E s := by
  have hT : s.TypeIs (.ref e) "enumerate" := ⟨_, he, rfl⟩
  unfold pyNext
  refine wpAny_bind (wpAny_attempt (wpAny_callSpecial?_slot (name := Str.ofString "__next__") hT F.slot_enumerate_next
    (wpAny_call_entry F.slot_enumerate_next hT F.entry_enumerate_next ?_ (F.args_enumerate_next_1 _))))
  suffices hh : wpAny (model prog w) (A.in1) (Builtin.«enumerate.__next__» ⟨[.ref e], []⟩) (fun fin s' => ∃ v, fin = .done (.ret v) ∧ Q (some v) s') (fun v s' => wpAny (model prog w) A (do if ← isInstance v (.type "StopIteration") then pure none else throw v) Q E s') s by
    exact wpAny_mono hh (fun f s' ⟨v, e1, q⟩ => ⟨v, e1, wpAny_pure q⟩) fun v s' q => q
  obtain ⟨hp, g, d, tk, os⟩ := s
  show wpAny _ _ (field (.ref e) 2 >>= _) _ _ _
  refine wpAny_bind (wpAny_field he rfl (x := .ref it) rfl ?_)
  refine wpAny_bind (nextOf_item hit hl hx fun h₁ hit₁ hs₁ => ?_)
  replace hs₁ : Heap.SameBut it hp h₁ := hs₁
  have he₁ : IsEnum h₁ e it i old := (hs₁.2 e hne).trans he
  show wpAny _ _ (field (.ref e) 3 >>= _) _ _ ⟨h₁, g, d, tk, os⟩
  refine wpAny_bind (wpAny_field he₁ rfl (x := rawInt i) rfl ?_)
  show wpAny _ _ (field (.ref e) 4 >>= _) _ _ ⟨h₁, g, d, tk, os⟩
  refine wpAny_bind (wpAny_field he₁ rfl (x := .none) rfl ?_)
  show wpAny _ _ (mkInt i >>= _) _ _ ⟨h₁, g, d, tk, os⟩
  refine wpAny_bind (wpAny_mkInt ?_)
  show wpAny _ _ (setField (.ref e) 3 (rawInt ((i : Int) + 1)) >>= _) _ _ ⟨h₁, g, d, tk + 1, os⟩
  refine wpAny_bind (wpAny_setField_rec he₁ (by simp) fun h₂ he₂ hs₂ => ?_)
  replace hs₂ : Heap.SameBut e h₁ h₂ := hs₂
  replace he₂ : IsEnum h₂ e it ((i : Int) + 1) old := he₂
  show wpAny _ _ (setField (.ref e) 4 .none >>= _) _ _ ⟨h₂, g, d, tk + 1, os⟩
  refine wpAny_bind (wpAny_setField_rec he₂ (by simp) fun h₃ he₃ hs₃ => ?_)
  replace hs₃ : Heap.SameBut e h₂ h₃ := hs₃
  replace he₃ : IsEnum h₃ e it ((i : Int) + 1) old := he₃
  show wpAny _ _ (newTuple [.int i tk, x] >>= _) _ _ ⟨h₃, g, d, tk + 1, os⟩
  refine wpAny_bind (wpAny_newTuple ?_)
  have he₄ : IsEnum (h₃.push { cls := .type "tuple", data := .seq #[.int i tk, x] }) e it ((i : Int) + 1) old := Heap.get?_push_of_some _ he₃
  generalize hh₄ : h₃.push { cls := .type "tuple", data := .seq #[.int i tk, x] } = h₄ at he₄
  have hsz : h₃.objs.size = hp.objs.size := by rw [hs₃.1, hs₂.1, hs₁.1]
  have hel : e < hp.objs.size := Heap.lt_size he
  have ht₄ : h₄.get? hp.objs.size = some { cls := .type "tuple", data := .seq #[.int i tk, x] } := by rw [← hh₄, ← hsz]; exact Heap.get?_push_size _ rfl
  have hz₄ : h₄.objs.size = hp.objs.size + 1 := by rw [← hh₄, Heap.size_push, hsz]
  have hk₄ : ∀ b o, b ≠ e → b ≠ it → hp.get? b = some o → h₄.get? b = some o := fun b o hbe hbi hb => by
    rw [← hh₄]; exact Heap.get?_push_of_some _ (hs₃.extBut b o hbe (hs₂.extBut b o hbe (hs₁.extBut b o hbi hb)))
  have hit₄ : SIt t h₄ it l (i + 1) := by
    rw [← hh₄]
    exact ((hit₁.ext hs₂.extBut (Ne.symm hne)).ext hs₃.extBut (Ne.symm hne)).at fun o ho => Heap.get?_push_of_some _ ho
  show wpAny _ _ (Builtin.SmallTypes.ownedTupleIsFree (.ref e) >>= _) _ _ ⟨h₄, g, d, tk + 1, os⟩
  rw [hsz]
  clear hh₄ he₃ hs₃ he₂ hs₂ he₁ hs₁ hit₁ hsz h₃ h₂ h₁
  refine wpAny_bind ?_
  unfold Builtin.SmallTypes.ownedTupleIsFree
  refine wpAny_bind (wpAny_field he₄ rfl (x := .none) rfl (wpAny_pure ?_))
  simp only [if_true]
  refine wpAny_bind (wpAny_rule ?_)
  refine wpAny_bind (wpAny_field he₄ rfl (x := old) rfl ?_)
  refine wpAny_bind (wpAny_setField_rec he₄ (by simp) fun h₅ he₅ hs₅ => ?_)
  replace hs₅ : Heap.SameBut e h₄ h₅ := hs₅
  replace he₅ : IsEnum h₅ e it ((i : Int) + 1) x := he₅
  show wpAny _ _ (Builtin.SmallTypes.ownedTupleHandOut (.ref e) (.ref hp.objs.size) >>= _) _ _ ⟨h₅, g, d, tk + 1, os⟩
  refine wpAny_bind ?_
  unfold Builtin.SmallTypes.ownedTupleHandOut
  refine wpAny_bind (wpAny_setField_rec he₅ (by simp) fun h₆ he₆ hs₆ => ?_)
  replace hs₆ : Heap.SameBut e h₅ h₆ := hs₆
  replace he₆ : IsEnumOut h₆ e it ((i : Int) + 1) x hp.objs.size := he₆
  refine wpAny_setField_rec he₆ (by simp) fun h₇ he₇ hs₇ => ?_
  replace hs₇ : Heap.SameBut e h₆ h₇ := hs₇
  replace he₇ : IsEnumOut h₇ e it ((i : Int) + 1) x hp.objs.size := he₇
  refine wpAny_bind (wpAny_letGo (wpAny_pure ⟨_, rfl, hQ h₇ he₇ ?_ ?_ ?_ ?_⟩))
  · exact ((hit₄.ext hs₅.extBut (Ne.symm hne)).ext hs₆.extBut (Ne.symm hne)).ext hs₇.extBut (Ne.symm hne)
  · exact hs₇.extBut _ _ (Nat.ne_of_gt hel) (hs₆.extBut _ _ (Nat.ne_of_gt hel) (hs₅.extBut _ _ (Nat.ne_of_gt hel) ht₄))
  · rw [hs₇.1, hs₆.1, hs₅.1, hz₄]
  · exact fun b o hbe hbi hb => hs₇.extBut b o hbe (hs₆.extBut b o hbe (hs₅.extBut b o hbe (hk₄ b o hbe hbi hb)))
theorem pyNext_enumEnd {t : Bool} {e it l : Addr} {i : Nat} {items : Array Value} {old : Value} {Q : Option Value → Shared → Prop} (hh : A.handled = none)
    (he : IsEnum s.heap e it i old) (hit : SIt t s.heap it l i) (hl : SOb t s.heap l items) (hx : items[i]? = none)
    (hQ : ∀ h', Heap.ExtBut it s.heap h' → Q none { s with heap := h' }) : wpAny (model prog w) A (pyNext (.ref e)) Q E s := by
  have hT : s.TypeIs (.ref e) "enumerate" := ⟨_, he, rfl⟩
  unfold pyNext
  refine wpAny_bind (wpAny_attempt (wpAny_callSpecial?_slot (name := Str.ofString "__next__") hT F.slot_enumerate_next
    (wpAny_call_entry F.slot_enumerate_next hT F.entry_enumerate_next ?_ (F.args_enumerate_next_1 _))))
  show wpAny _ _ (field (.ref e) 2 >>= _) _ _ _
  refine wpAny_bind (wpAny_field he rfl (x := .ref it) rfl ?_)
  refine wpAny_bind (nextOf_end hh hit hl hx fun h' x he' hx' => ?_)
  obtain ⟨o, ho, hc⟩ := hx'
  refine wpAny_bind (wpAny_isInstance (T := "StopIteration") (b := true) ⟨o, ho, hc⟩ isSubtype_stop ?_)
  exact wpAny_pure (hQ _ he')
end
abbrev enI (h : Heap) (t : Bool) (l : Addr) : Heap := h.push (itO t l)
abbrev enE (h : Heap) (t : Bool) (l : Addr) : Heap := (enI h t l).push { cls := .type "enumerate", data := .fields #[.none, .bool false, .ref h.objs.size, rawInt 0, .none, .none] }
theorem meets_enum_new (t : Bool) (l : Addr) (items : Array Value) :
    Meets (Builtin.«enumerate.__new__» ⟨[.type "enumerate", .ref l], []⟩) (fun _ R s => SOb t s.heap l items ∧ R (.ok (.ret (.ref (enI s.heap t l).objs.size))) { s with heap := enE s.heap t l }) :=
  .of_wp fun prog w A R s h => by
    obtain ⟨hp, g, d, tk, os⟩ := s; obtain ⟨hl, h⟩ := h
    have hsub := sub_enumerate
    have hL : SOb t (Shared.heap ⟨hp, g, d, tk, os⟩) l items := hl
    wp_walk
    refine wpAny_stack_any fun st => wpAny_pure ?_
    split
    · rename_i c _ _ _ _ _
      cases (c == Value.type "enumerate")
      · wp_walk using pyIter_src hL
        exact ⟨_, rfl, h⟩
      · wp_walk using pyIter_src hL
        exact ⟨_, rfl, h⟩
    · wp_walk using pyIter_src hL
      exact ⟨_, rfl, h⟩
section
variable {prog : Program} {w : World} {A : Around} {E : Value → Shared → Prop} {s : Shared}
theorem call_enumN {t : Bool} {l : Addr} {items : Array Value} {Q : Value → Shared → Prop} (hL : SOb t s.heap l items)
    (h : ∀ h', IsEnum h' (s.heap.objs.size + 1) s.heap.objs.size 0 .none → SIt t h' s.heap.objs.size l 0 → h'.objs.size = s.heap.objs.size + 2 →
      (∀ b o, s.heap.get? b = some o → h'.get? b = some o) → Q (.ref (s.heap.objs.size + 1)) { s with heap := h' }) : wpAny (model prog w) A (call (.type "enumerate") [.ref l]) Q E s := by
  refine callType_new F.called_enumerate (by decide) (F.typeCall_enumerate_1 _) (F.newCall_enumerate_1 _) (fun obj => F.args_object_init_2 obj _) F.entry_enumerate_new (meets_enum_new t l items) ⟨hL, ?_⟩
  have hz : (enI s.heap t l).objs.size = s.heap.objs.size + 1 := Heap.size_push ..
  show _ ∧ _
  rw [hz]
  have he : IsEnum (enE s.heap t l) (s.heap.objs.size + 1) s.heap.objs.size 0 .none := by
    have := Heap.get?_push_size (enI s.heap t l) (o := { cls := .type "enumerate", data := .fields #[.none, .bool false, .ref s.heap.objs.size, rawInt 0, .none, .none] }) rfl
    rw [hz] at this; exact this
  exact ⟨⟨_, he, rfl⟩, h _ he (SIt.new (Heap.get?_push_of_some _ (Heap.get?_push_size _ (by cases t <;> rfl)))) (by rw [Heap.size_push, hz]) fun b o x => Heap.get?_push_of_some _ (Heap.get?_push_of_some _ x)⟩
end
def IteN (K : PySem.W.Frag) (t : Bool) (a : Addr) : It :=
  ⟨fun i H => ∃ (xs : List V) (x : V), SqB t K H a xs ∧ xs[i]? = some x, fun i H v H' => ∃ T x, v = .ref T ∧ H T = none ∧ H' = upd H T (.tup [.int (i : Nat), x]) ∧ ∀ xs, SqB t K H a xs → xs[i]? = some x, fun i H => ∃ xs : List V, SqB t K H a xs ∧ xs.length ≤ i⟩
theorem turn_enumN {P : Program} {w : World} {K : PySem.W.Frag} {elts : List Expr} {kk : Nat} {tpos : Pos} (t : Bool) (a e it : Addr) :
    Turn P w K (.Tuple elts kk tpos) (IteN K t a) [e, it] e (fun i h => (∃ old, IsEnum h e it ((i : Nat) : Int) old) ∧ SIt t h it a i ∧ e ≠ it) where
  mem := by simp
  obj := fun i h st b hb => by
    obtain ⟨⟨old, he⟩, hi, _⟩ := st
    rcases (by simpa using hb : b = e ∨ b = it) with z | z
    · rw [z]; exact ⟨_, he, fun v q => nomatch q⟩
    · rw [z]; exact hi.obj
  keep := fun i h h' st k => let ⟨⟨old, he⟩, hi, hne⟩ := st; ⟨⟨old, k e (by simp) _ he⟩, hi.at fun o q => k it (by simp) o q, hne⟩
  item := by
    intro X hP hw hK hc i pins s σ H E I hf st hg
    subst hP hw hK
    obtain ⟨⟨old, he⟩, hit, hne⟩ := st
    obtain ⟨xs, x, hq, hx⟩ := hg
    obtain ⟨its, rv, p⟩ := sqB_ob I hq
    obtain ⟨u, hu, ru⟩ := rv.get hx
    have hel : e < s.heap.objs.size := Heap.lt_size he
    have hil : it < s.heap.objs.size := by obtain ⟨_, q, _⟩ := hit.obj; exact Heap.lt_size q
    refine pyNext_enumN he hit p (x := u) (by simpa using hu) hne fun h' ho hit' hT hsz hk => ?_
    refine ⟨_, rfl, wpAny_letOwnedTupleGo_enum (s := { s with heap := h', toks := s.toks + 1 }) ho fun h'' he' sb => ?_⟩
    have hT2 : h''.get? s.heap.objs.size = some { cls := .type "tuple", data := .seq #[.int i s.toks, u] } := (sb.2 _ (Nat.ne_of_gt hel)).trans hT
    have new : ObjOk X.prog X.w (upd H s.heap.objs.size (.tup [.int (i : Nat), x])) h'' s.heap.objs.size (.tup [.int (i : Nat), x]) :=
      ⟨by show 2 ≤ sizeLine; decide, [.int i s.toks, u], .cons ⟨_, rfl⟩ (.cons ru .nil), ⟨_, hT2, rfl, _, rfl⟩⟩
    have I1 : Inv X pins σ (upd H s.heap.objs.size (.tup [.int (i : Nat), x])) { s with heap := h'', toks := s.toks + 1 } :=
      I.turnedNew (ch := [e, it]) (fun b ob hb q => (sb.2 b (fun z => hb (by simp [z]))).trans (hk b ob (fun z => hb (by simp [z])) (fun z => hb (by simp [z])) q)) hf (Nat.le_refl _) new
    refine ⟨.ref s.heap.objs.size, _, I1, rfl, ⟨_, x, rfl, I.hok.fresh (Nat.le_refl _), rfl, fun ys hy => by rw [sqB_inj I hy hq]; exact hx⟩, ⟨⟨u, ?_⟩, hit'.at fun o q => (sb.2 it (Ne.symm hne)).trans q, hne⟩, fun b hb => ?_⟩
    · have e1 : ((i + 1 : Nat) : Int) = (i : Int) + 1 := by omega
      rw [e1]; exact he'
    · have hb' : b < s.heap.objs.size := by
        rcases (by simpa using hb : b = e ∨ b = it) with z | z
        · rw [z]; exact hel
        · rw [z]; exact hil
      rw [upd_ne (Nat.ne_of_lt hb')]
      exact (hf b hb).1
  done := by
    intro X hP hw hK hc i pins s σ H E I hf st hg
    subst hP hw hK
    obtain ⟨⟨old, he⟩, hit, hne⟩ := st
    obtain ⟨xs, hq, hx⟩ := hg
    obtain ⟨its, rv, p⟩ := sqB_ob I hq
    obtain ⟨f0, f1, f2, f3, f4, f5⟩ := hf it (by simp)
    have hl := rv.length
    exact pyNext_enumEnd (I.ok.hd hc) he hit p (by simp; omega) fun h' eb => ⟨rfl, I.turned (t' := s.toks) (fun b o hb q => eb b o hb q) f0 f1 f3 f4 f5⟩
  self := fun A i s Q E st h => let ⟨⟨_, he⟩, _⟩ := st; wpAny_pyIter_enum he h
def iEnumN (K : PySem.W.Frag) (ta : TA) : TI := fun σ H R => ta σ H fun vs H1 => ∃ t a xs, vs = [.ref a] ∧ SqB t K H1 a xs ∧ R (IteN K t a) H1
theorem pi_enumN {X : Cx} {e : Expr} {ta : TA} {p pos tpos : Pos} {elts : List Expr} {kk : Nat} (hg : Gl X "enumerate") (hm : X.mg "enumerate" = none) (ha : PA X [e] ta) (hs : starEach [e] X.env = [(false, eval e X.env)]) :
    PI X (.Tuple elts kk tpos) (.Call (.Name "enumerate" p) [e] [] pos) (iEnumN X.K ta) := by
  refine ⟨fun pins s σ H R I h => ?_⟩
  refine Call_ (ld_blt I hg hm boot_enumerate (PyProof.Rows.callWith_type1 (thn (ha.run pos pins s σ H _ I h) fun us s1 ⟨vs, H1, I1, r1, q1⟩ => ?_) hs rfl))
  obtain ⟨t, a, xs, ex, hq, q⟩ := q1
  subst ex
  cases r1 with
  | cons r rr =>
    cases rr
    cases r
    obtain ⟨its, rv, p'⟩ := sqB_ob I1 hq
    refine call_enumN p' fun h' he hit hsz hk => wpAny_pyIter_enum he ?_
    have I2 : Inv X pins σ H1 { s1 with heap := h' } := I1.kept (t' := s1.toks) hk
    refine ⟨s1.heap.objs.size + 1, [s1.heap.objs.size + 1, s1.heap.objs.size], _, _, H1, rfl, I2, turn_enumN t a (s1.heap.objs.size + 1) s1.heap.objs.size, ⟨⟨.none, he⟩, hit, Nat.succ_ne_self _⟩, fun b hb => ?_, q⟩
    have hle : s1.heap.objs.size ≤ b := by
      rcases (by simpa using hb : b = s1.heap.objs.size + 1 ∨ b = s1.heap.objs.size) with z | z
      · rw [z]; exact Nat.le_add_right _ _
      · rw [z]; exact Nat.le_refl _
    exact I1.fpOk hle (I1.hok.fresh hle)
end Ev

set_option maxHeartbeats 4000000
/-! Ev: a, .., *rest = a tuple or a list. -/
namespace Ev
open PySem PySem.Spec PyProof.Rows L2
set_option autoImplicit false
section
variable {prog : Program} {w : World} {A : Around} {E : Value → Shared → Prop} {s : Shared}
theorem star_tup {l : Addr} {its : Array Value} {i : Nat} {Q : List Value → Shared → Prop} (hl : IsTup s.heap l its) (hh : A.handled = none) (hi : i ≤ its.size) (hz : its.size ≤ sizeLine)
    (h : ∀ g tk, (∀ b o, s.heap.get? b = some o → g.get? b = some o) → wpAny (model prog w) A (newList (its.toList.drop i)) (fun v s2 => Q (its.toList.take i ++ [v]) s2) E { s with heap := g, toks := tk }) : wpAny (model prog w) A (unpackItems (.ref l) (i + 1) (some i)) Q E s := by
  have ne : l ≠ s.heap.objs.size := let ⟨_, ho, _⟩ := hl; Nat.ne_of_lt (Heap.lt_size ho)
  unfold unpackItems
  refine wpAny_bind ?_
  unfold notIterableAtAll
  refine wpAny_bind (wpAny_specialOf hl.typeIs slot_tuple_iter.lookup (wpAny_pure ?_))
  simp only [Bool.false_eq_true, if_false]
  refine wpAny_bind (wpAny_holding (iter_tuple hl (wpAny_bind (wpAny_holding (draw_tuple ne i 0 _ _ ⟨_, Heap.get?_push_size _ rfl, rfl, rfl⟩ (hl.push _) (by omega) fun g1 it1 k1 => ?_)))))
  have hl1 : IsTup g1 l its := (hl.push _).extBut k1.extBut ne
  rw [Nat.zero_add] at it1
  obtain ⟨oi, hoi, _⟩ := id it1
  obtain ⟨ol, hol, _⟩ := id hl1
  rw [List.drop_zero]
  have len1 : (its.toList.take i).length = i := by rw [List.length_take, Array.length_toList]; omega
  have len2 : (its.toList.drop i).length = its.size - i := by rw [List.length_drop, Array.length_toList]
  rw [if_neg (by rw [len1]; omega)]
  refine wpAny_bind (wpAny_holding (PySem.W.kun_collect (s := { s with heap := g1 }) (T := "tuple_iterator") (.inr (.inr (.inr rfl))) (Walks.tuple (A := A.in1) hh s.heap.objs.size l ne its) (fun j u st => st.1.typeIs) (k := i) hi ⟨it1, hl1⟩ (Heap.lt_size hoi) (Heap.lt_size hol) (fun g2 tk k2 => ?_) hz))
  show wpAny _ _ (if (its.toList.drop i).length < i + 1 - 1 - i then _ else _) _ _ _
  rw [if_neg (by omega)]
  show wpAny _ _ (newList ((its.toList.drop i).take ((its.toList.drop i).length - (i + 1 - 1 - i))) >>= fun d => pure (its.toList.take i ++ [d] ++ (its.toList.drop i).drop ((its.toList.drop i).length - (i + 1 - 1 - i)))) _ _ _
  have z : (its.toList.drop i).length - (i + 1 - 1 - i) = (its.toList.drop i).length := by omega
  rw [z, List.take_length, List.drop_length]
  refine wpAny_bind (wpAny_mono (h g2 tk fun b o e => k2 b o (Nat.ne_of_lt (Heap.lt_size e)) (k1.extBut b o (Nat.ne_of_lt (Heap.lt_size e)) (Heap.get?_push_of_some _ e))) (fun v s2 q => wpAny_pure ?_) fun _ _ q => q)
  rw [List.append_nil]
  exact q
theorem star_lst {l : Addr} {its : Array Value} {i : Nat} {Q : List Value → Shared → Prop} (hl : s.heap.IsList l its) (hh : A.handled = none) (hi : i ≤ its.size) (hz : its.size ≤ sizeLine)
    (h : ∀ g tk, (∀ b o, s.heap.get? b = some o → g.get? b = some o) → wpAny (model prog w) A (newList (its.toList.drop i)) (fun v s2 => Q (its.toList.take i ++ [v]) s2) E { s with heap := g, toks := tk }) : wpAny (model prog w) A (unpackItems (.ref l) (i + 1) (some i)) Q E s := by
  have ne : l ≠ s.heap.objs.size := let ⟨_, ho, _⟩ := hl; Nat.ne_of_lt (Heap.lt_size ho)
  unfold unpackItems
  refine wpAny_bind ?_
  unfold notIterableAtAll
  refine wpAny_bind (wpAny_specialOf hl.typeIs slot_list_iter.lookup (wpAny_pure ?_))
  simp only [Bool.false_eq_true, if_false]
  refine wpAny_bind (wpAny_holding (wpAny_pyIter_list hl (wpAny_bind (wpAny_holding (PySem.W.kun_draw ne i 0 _ _ ⟨_, Heap.get?_push_size _ rfl, rfl, rfl⟩ (hl.push _) (by omega) fun g1 it1 k1 => ?_)))))
  have hl1 : g1.IsList l its := (hl.push _).extBut k1.extBut ne
  rw [Nat.zero_add] at it1
  obtain ⟨oi, hoi, _⟩ := id it1
  obtain ⟨ol, hol, _⟩ := id hl1
  rw [List.drop_zero]
  have len1 : (its.toList.take i).length = i := by rw [List.length_take, Array.length_toList]; omega
  have len2 : (its.toList.drop i).length = its.size - i := by rw [List.length_drop, Array.length_toList]
  rw [if_neg (by rw [len1]; omega)]
  refine wpAny_bind (wpAny_holding (PySem.W.kun_collect (s := { s with heap := g1 }) (T := "list_iterator") (.inr (.inr (.inl rfl))) (Walks.list (A := A.in1) hh s.heap.objs.size l ne its) (fun j u st => st.1.typeIs) (k := i) hi ⟨it1, hl1⟩ (Heap.lt_size hoi) (Heap.lt_size hol) (fun g2 tk k2 => ?_) hz))
  show wpAny _ _ (if (its.toList.drop i).length < i + 1 - 1 - i then _ else _) _ _ _
  rw [if_neg (by omega)]
  show wpAny _ _ (newList ((its.toList.drop i).take ((its.toList.drop i).length - (i + 1 - 1 - i))) >>= fun d => pure (its.toList.take i ++ [d] ++ (its.toList.drop i).drop ((its.toList.drop i).length - (i + 1 - 1 - i)))) _ _ _
  have z : (its.toList.drop i).length - (i + 1 - 1 - i) = (its.toList.drop i).length := by omega
  rw [z, List.take_length, List.drop_length]
  refine wpAny_bind (wpAny_mono (h g2 tk fun b o e => k2 b o (Nat.ne_of_lt (Heap.lt_size e)) (k1.extBut b o (Nat.ne_of_lt (Heap.lt_size e)) (Heap.get?_push_of_some _ e))) (fun v s2 q => wpAny_pure ?_) fun _ _ q => q)
  rw [List.append_nil]
  exact q
end
section
variable {X : Cx}
def gStar (K : PySem.W.Frag) (n : Nat) (t : TGs) : TG := fun v σ H Q => ∃ a xs, v = .ref a ∧ (SqT K H a xs ∨ SqL K H a xs) ∧ n ≤ xs.length ∧ ∀ D, H D = none → t (xs.take n ++ [.ref D]) σ (upd H D (.lst (xs.drop n))) Q
theorem pgs_star {e : Expr} {p : Pos} {t : TG} (h1 : PG X e t) : PGs X [.Starred e p] (fun vs σ H Q => ∃ v, vs = [v] ∧ t v σ H Q) := by
  refine ⟨fun pins s σ H vs us Q I r ⟨v, e1, q⟩ => ?_⟩
  subst e1
  cases r with
  | cons r rr =>
    cases rr
    show wpAny _ _ (assignInOrder [assign e X.env] _) _ _ _
    exact assignInOrder_cons (thn (h1.run pins s σ H _ _ _ I r q) fun _ s1 ⟨σ1, H1, I1, q1⟩ => assignInOrder_nil ⟨σ1, H1, I1, q1⟩)
theorem pg_star {es : List Expr} {k n : Nat} {pos : Pos} {t : TGs} (hc : X.calm = true) (h : PGs X es t) (hn : (assignEach es X.env).length = n + 1) (hst : (assignEach es X.env).findIdx? (·.1) = some n) : PG X (.Tuple es k pos) (gStar X.K n t) := by
  refine ⟨fun pins s σ H v u Q I r hw => ?_⟩
  obtain ⟨a, xs, e1, hq, hl, hw⟩ := hw
  subst e1
  cases r
  rw [PyProof.Rows.assign_Tuple]
  refine wpAny_bind (wpAny_standAt ?_)
  unfold unpack
  rw [hn, hst]
  have fin : ∀ (its : List Value) (g : Heap) (tk : Nat), Vals xs its → its.length ≤ sizeLine → (∀ b o, s.heap.get? b = some o → g.get? b = some o) →
      wpAny (model X.prog X.w) X.A (newList (its.drop n)) (fun v s2 => wpAny (model X.prog X.w) X.A (assignInOrder ((assignEach es X.env).map (·.2)) (its.take n ++ [v])) (fun _ s' => ∃ σ' H', Inv X pins σ' H' s' ∧ Q σ' H') X.xe s2) X.xe { s with heap := g, toks := tk } := fun its g tk rv hz k => by
    have I1 : Inv X pins σ H { s with heap := g, toks := tk } := I.kept (t' := tk) k
    have hD : H g.objs.size = none := I1.hok.fresh (Nat.le_refl _)
    have hlen : (its.drop n).length ≤ sizeLine := by rw [List.length_drop]; omega
    have rd : Vals (xs.drop n) (its.drop n) := rv.drop n
    have rt : Vals (xs.take n) (its.take n) := rv.take n
    refine wpAny_newObj_type ?_ hlen
    have I2 : Inv X pins σ (upd H g.objs.size (.lst (xs.drop n))) { s with heap := g.push { cls := .type "list", data := .seq (its.drop n).toArray }, toks := tk } :=
      I1.laid (t' := tk) (fun b o e => Heap.get?_push_of_some _ e) (Nat.le_refl _) ⟨by rw [rd.length]; exact hlen, its.drop n, 0, rd, Heap.get?_push_size _ rfl⟩
    exact h.run pins _ σ _ _ _ Q I2 (rt.append (.cons (show RelV (V.ref g.objs.size) (Value.ref g.objs.size) from rfl) .nil)) (hw _ hD)
  rcases hq with hq | hq
  · obtain ⟨its, rv, ht, hz⟩ := I.tuple hq
    refine wpAny_bind (wpAny_holding (star_tup ht (I.ok.hd hc) (by rw [List.size_toArray, ← rv.length]; exact hl) (by rw [List.size_toArray, ← rv.length]; exact hz) fun g tk k => ?_))
    exact fin its g tk rv (by rw [← rv.length]; exact hz) k
  · obtain ⟨its, rv, ht, hz⟩ := I.list hq
    refine wpAny_bind (wpAny_holding (star_lst ht.isList (I.ok.hd hc) (by rw [List.size_toArray, ← rv.length]; exact hl) (by rw [List.size_toArray, ← rv.length]; exact hz) fun g tk k => ?_))
    exact fin its g tk rv (by rw [← rv.length]; exact hz) k
end
end Ev

set_option maxHeartbeats 4000000
/-! Ev: the operations of the model do what the data's do. -/
namespace Ev
open PySem PySem.Spec PyProof.Rows L2
set_option autoImplicit false

/-- what is owned is tracked -/
def Own (H : Hp) (ρ : List Addr) : Prop := ∀ a ∈ ρ, ∃ o, H a = some o
theorem Own.fresh {H : Hp} {ρ : List Addr} (w : Own H ρ) {p : Addr} (h : H p = none) : p ∉ ρ := fun hp => by
  obtain ⟨o, q⟩ := w p hp
  rw [h] at q
  cases q
/-- the data d comes out, all stands -/
def Out (K : PySem.W.Frag) (H : Hp) (ρ : List Addr) (d : PyData) (Q : VK) : Prop := ∀ H' z, Same H H' → DR K H' ρ d z → Q z H'

section
variable {K : PySem.W.Frag} {H : Hp} {ρ : List Addr} {Q : VK}
theorem Out.now {d : PyData} {v : V} (o : Out K H ρ d Q) (h : DR K H ρ d v) : Q v H := o H v (Same.refl H) h
theorem Out.lst {ds : List PyData} {vs : List V} (o : Out K H ρ (.list ds) Q) (w : Own H ρ) (h : DRs K H ρ ds vs) : ∀ p, H p = none → Q (.ref p) (upd H p (.lst vs)) :=
  fun p hp => o _ _ (same_upd hp) (.lst (.inl ⟨.inl upd_same, w.fresh hp⟩) (h.ext (sext (same_upd hp))))
theorem Out.tup {ds : List PyData} {vs : List V} (o : Out K H ρ (.tuple ds) Q) (w : Own H ρ) (h : DRs K H ρ ds vs) : ∀ p, H p = none → Q (.ref p) (upd H p (.tup vs)) :=
  fun p hp => o _ _ (same_upd hp) (.tup (.inl ⟨.inl upd_same, w.fresh hp⟩) (h.ext (sext (same_upd hp))))
end
theorem rdt_int {K : PySem.W.Frag} {H : Hp} {ρ : List Addr} {i : Int} {v : V} (h : RDt K H ρ (.int i) v) : v = .int i := by
  have h : DR K H ρ (.int i) v := h
  cases h
  rfl
theorem rdt_bool {K : PySem.W.Frag} {H : Hp} {ρ : List Addr} {i : Bool} {v : V} (h : RDt K H ρ (.bool i) v) : v = .bl i := by
  have h : DR K H ρ (.bool i) v := h
  cases h
  rfl
theorem rdt_str {K : PySem.W.Frag} {H : Hp} {ρ : List Addr} {i : Str} {v : V} (h : RDt K H ρ (.str i) v) : v = .str i := by
  have h : DR K H ρ (.str i) v := h
  cases h
  rfl
theorem rdt_none {K : PySem.W.Frag} {H : Hp} {ρ : List Addr} {v : V} (h : RDt K H ρ .none v) : v = .non := by
  have h : DR K H ρ .none v := h
  cases h
  rfl

section
variable {X : Cx}
/-! ### rules that the layer has for tracked lists alone -/
def rCatW (K : PySem.W.Frag) : R2 := fun x y H Q => ∃ a b xs ys, x = .ref a ∧ y = .ref b ∧ SqL K H a xs ∧ SqL K H b ys ∧ xs.length + ys.length ≤ sizeLine ∧ ∀ p, H p = none → Q (.ref p) (upd H p (.lst (xs ++ ys)))
theorem op_catW : OpR X (binaryOp .Add) (rCatW X.K) := by
  intro pins s σ H x y v u Q I rx ry h
  obtain ⟨a, b, xs, ys, rfl, rfl, ha, hb, hz, q⟩ := h
  cases rx
  cases ry
  obtain ⟨its, r1, ⟨⟨c1, d1, t1, s1⟩, n1, g1, e1, _, f1⟩, _⟩ := I.list ha
  obtain ⟨jts, r2, ⟨⟨c2, d2, t2, s2⟩, n2, g2, e2, _, f2⟩, _⟩ := I.list hb
  simp only at e1 f1 e2 f2
  subst e1 f1 e2 f2
  have hsz : its.toArray.size + jts.toArray.size ≤ sizeLine := by
    have l1 := r1.length
    have l2 := r2.length
    simp only [List.size_toArray]
    omega
  refine concat_meets (T := "list") ⟨_, g1, rfl⟩ ⟨_, g2, rfl⟩ noFill_list_add seq_list_add PySem.F.slot_list_add PySem.F.entry_list_add (PySem.F.args_list_add_2 _ _)
    (list_addW a b its.toArray jts.toArray n1 n2 d1 d2 s1 s2 hsz) ⟨g1, g2, ?_⟩
  have ea : its.toArray ++ jts.toArray = (its ++ jts).toArray := by simp
  rw [ea]
  exact ⟨.ref _, _, I.lnew (t' := s.toks) (r1.append r2) (by rw [List.length_append]; exact hz), rfl, q _ I.fresh⟩
def rRepW (K : PySem.W.Frag) : R2 := fun x y H Q => ∃ a k xs, x = .ref a ∧ y = .int k ∧ SqL K H a xs ∧ -(2 ^ 63) ≤ k ∧ k < 2 ^ 63 ∧ xs.length * k.toNat ≤ sizeLine ∧
  ∀ p, H p = none → Q (.ref p) (upd H p (.lst (List.replicate k.toNat xs).flatten))
theorem op_repW : OpR X (binaryOp .Mult) (rRepW X.K) := by
  intro pins s σ H x y v u Q I rx ry h
  obtain ⟨a, k, xs, rfl, rfl, ha, h1, h2, hz, q⟩ := h
  cases rx
  obtain ⟨t, rfl⟩ := ry
  obtain ⟨its, r, ⟨⟨c1, d1, t1, s1⟩, n1, g1, e1, _, f1⟩, _⟩ := I.list ha
  simp only at e1 f1
  subst e1 f1
  have hl := r.length
  have hlen : its.toArray.size * k.toNat ≤ sizeLine := by rw [List.size_toArray, ← hl]; exact hz
  have hcap : ¬ its.toArray.size * k.toNat > (2 ^ 63 - 1) / 8 := by
    have : (sizeLine : Nat) ≤ (2 ^ 63 - 1) / 8 := by decide
    omega
  have hfit : ¬ (!Builtin.List.listFitsIndex k) = true := by
    rw [fitsIndex_both h1 h2]
    exact Bool.false_ne_true
  have hlong : ¬ Builtin.List.listTooLong (its.toArray.size * k.toNat) = true := by
    rw [notLongL hlen]
    exact Bool.false_ne_true
  refine wpAny_binaryOp_repeat_ref (T := "list") (U := "int") (by decide) ⟨_, g1, rfl⟩ (fun s' => typeIs_int s' k t) noFill_list_mul F.fills_int_mul F.slot_int_rmul repeat_list F.slot_int_index.lookup ?_
  refine call_meets F.slot_int_rmul (typeIs_int s k t) F.entry_int_rmul (F.args_int_rmul_2 _ _) (lm_int_rmul_list_any k t a its.toArray n1 d1 s1) ⟨g1, rfl, ⟨_, g1, rfl⟩, ?_⟩
  refine call_meets F.slot_list_mul ⟨_, g1, rfl⟩ F.entry_list_mul (F.args_list_mul_2 _ _) (lm_list_mul_any a its.toArray n1 d1 s1 k t hfit hcap hlong) ⟨g1, ?_⟩
  rw [listMul_foldl_if]
  exact ⟨.ref _, _, I.lnew (t' := s.toks) (r.rep k.toNat) (by rw [PyProof.Rows.lm_len_rep_flat, Nat.mul_comm]; exact hz), rfl, q _ I.fresh⟩
end
end Ev

set_option maxHeartbeats 4000000
namespace Ev
open PySem PySem.Spec PyProof.Rows L2
set_option autoImplicit false
theorem tup_mul_self (l : Addr) (items : Array Value) (n : Nat) (dd : Option Addr) (sl : Array (Option Value)) (x : Int) (u : Tok) (c0 : (decide (x < -(2 ^ 63)) || decide (x ≥ 2 ^ 63)) = false)
    (c1 : (items.isEmpty || x == 1) = true) :
    Meets (Builtin.«tuple.__mul__» ⟨[.ref l, .int x u], []⟩) (fun _ R s => s.heap.get? l = some { cls := .type "tuple", dict := dd, data := .seq items n, slots := sl } ∧
      R (.ok (.ret (Value.ref l))) s) :=
  .of_wp fun prog w A R s h => by
    obtain ⟨hp, g, d, tk, os⟩ := s
    obtain ⟨hl, h⟩ := h
    have f1 := AutoSeq1.idx_int
    wp_walk using wpAny_loadPart' hl
    repeat (first
      | (refine wpAny_ite_false (decide_eq_false (by rw [c0]; exact Bool.false_ne_true)) ?_; wp_walk using wpAny_loadPart' hl)
      | (refine wpAny_ite_true (decide_eq_true (by rw [c1])) ?_; wp_walk using wpAny_loadPart' hl))
    exact ⟨_, rfl, h⟩
theorem tup_mul_nil (l : Addr) (items : Array Value) (n : Nat) (dd : Option Addr) (sl : Array (Option Value)) (x : Int) (u : Tok) (c0 : (decide (x < -(2 ^ 63)) || decide (x ≥ 2 ^ 63)) = false)
    (c1 : (items.isEmpty || x == 1) = false) (c2 : (decide (x ≤ 0) || items.isEmpty) = true) :
    Meets (Builtin.«tuple.__mul__» ⟨[.ref l, .int x u], []⟩) (fun _ R s => s.heap.get? l = some { cls := .type "tuple", dict := dd, data := .seq items n, slots := sl } ∧
      R (.ok (.ret (Value.ref s.heap.objs.size))) { s with heap := s.heap.push { cls := Value.type "tuple", data := Data.seq #[] } }) :=
  .of_wp fun prog w A R s h => by
    obtain ⟨hp, g, d, tk, os⟩ := s
    obtain ⟨hl, h⟩ := h
    have f1 := AutoSeq1.idx_int
    wp_walk using wpAny_loadPart' hl
    repeat (first
      | (refine wpAny_ite_false (decide_eq_false (by rw [c0]; exact Bool.false_ne_true)) ?_; wp_walk using wpAny_loadPart' hl)
      | (refine wpAny_ite_false (decide_eq_false (by rw [c1]; exact Bool.false_ne_true)) ?_; wp_walk using wpAny_loadPart' hl)
      | (refine wpAny_ite_true (decide_eq_true (by rw [c2])) ?_; wp_walk using wpAny_loadPart' hl))
    exact ⟨_, rfl, h⟩

theorem rep_one {α : Type} (xs : List α) : (List.replicate 1 xs).flatten = xs := by simp
theorem rep_nil {α : Type} (k : Nat) : (List.replicate k ([] : List α)).flatten = [] := by
  induction k with
  | zero => rfl
  | succ k ih => rw [List.replicate_succ, List.flatten_cons, ih]; rfl
section
variable {X : Cx}
def rRepTW (K : PySem.W.Frag) : R2 := fun x y H Q => ∃ a k xs, x = .ref a ∧ y = .int k ∧ SqT K H a xs ∧ -(2 ^ 63) ≤ k ∧ k < 2 ^ 63 ∧ xs.length * k.toNat ≤ sizeLine ∧
  ((xs = [] ∨ k = 1) → Q (.ref a) H) ∧ (∀ p, H p = none → Q (.ref p) (upd H p (.tup (List.replicate k.toNat xs).flatten)))
theorem op_repTW : OpR X (binaryOp .Mult) (rRepTW X.K) := by
  intro pins s σ H x y v u Q I rx ry h
  obtain ⟨a, k, xs, rfl, rfl, ha, h1, h2, hz, qa, qn⟩ := h
  cases rx
  obtain ⟨t, rfl⟩ := ry
  obtain ⟨its, r, ⟨⟨cls, dd, data, sl⟩, ho, hc, n, hd⟩, hs⟩ := I.tuple ha
  simp only at hc hd
  subst hc hd
  have hl := r.length
  have c0 : (decide (k < -(2 ^ 63)) || decide (k ≥ 2 ^ 63)) = false := by
    rw [decide_eq_false (show ¬ k < -(2 ^ 63) by omega), decide_eq_false (show ¬ k ≥ 2 ^ 63 by omega)] <;> rfl
  have he : its.toArray.isEmpty = its.isEmpty := by cases its <;> rfl
  refine wpAny_binaryOp_repeat_ref (T := "tuple") (U := "int") (by decide) ⟨_, ho, rfl⟩ (fun s' => typeIs_int s' k t) noFill_tuple_mul F.fills_int_mul F.slot_int_rmul repeat_tuple F.slot_int_index.lookup ?_
  refine call_meets F.slot_int_rmul (typeIs_int s k t) F.entry_int_rmul (F.args_int_rmul_2 _ _) (int_rmul_tuple k t a its.toArray n dd sl) ⟨ho, rfl, ⟨_, ho, rfl⟩, ?_⟩
  by_cases hsame : xs = [] ∨ k = 1
  · have c1 : (its.toArray.isEmpty || k == 1) = true := by
      rw [he]
      rcases hsame with e | e
      · subst e; cases r; rfl
      · subst e; simp
    exact call_meets F.slot_tuple_mul ⟨_, ho, rfl⟩ F.entry_tuple_mul (F.args_tuple_mul_2 _ _) (tup_mul_self a its.toArray n dd sl k t c0 c1) ⟨ho, .ref a, H, I, rfl, qa hsame⟩
  · have hne : xs ≠ [] := fun e => hsame (.inl e)
    have hk : k ≠ 1 := fun e => hsame (.inr e)
    have hi : its.isEmpty = false := by
      cases r with
      | nil => exact absurd rfl hne
      | cons _ _ => rfl
    have c1 : (its.toArray.isEmpty || k == 1) = false := by
      rw [he, hi, Bool.false_or]
      exact beq_eq_false_iff_ne.mpr hk
    by_cases hk0 : k ≤ 0
    · have c2 : (decide (k ≤ 0) || its.toArray.isEmpty) = true := by rw [decide_eq_true hk0]; rfl
      have e0 : (List.replicate k.toNat xs).flatten = [] := by
        rw [show k.toNat = 0 by omega]
        rfl
      refine call_meets F.slot_tuple_mul ⟨_, ho, rfl⟩ F.entry_tuple_mul (F.args_tuple_mul_2 _ _) (tup_mul_nil a its.toArray n dd sl k t c0 c1 c2) ⟨ho, ?_⟩
      refine ⟨.ref s.heap.objs.size, _, I.laid (t' := s.toks) (o := .tup (List.replicate k.toNat xs).flatten) (fun b ob q => Heap.get?_push_of_some _ q) (Nat.le_refl _) ?_, rfl, qn _ (I.hok.fresh (Nat.le_refl _))⟩
      rw [e0]
      exact ⟨Nat.zero_le _, [], .nil, IsTup.new _ _⟩
    · have c2 : (decide (k ≤ 0) || its.toArray.isEmpty) = false := by rw [he, hi, Bool.or_false]; exact decide_eq_false hk0
      have ek : ((k.toNat : Nat) : Int) = k := by omega
      have hz1 : its.toArray.size * k.toNat ≤ sizeLine := by rw [List.size_toArray, ← hl]; exact hz
      have hz2 : ((its.toArray.size : Nat) : Int) * k ≤ (sizeLine : Nat) := by
        have := Int.ofNat_le.mpr hz1
        rw [Int.natCast_mul, ek] at this
        exact this
      have c3 : ¬ ((its.toArray.size : Nat) : Int) * k > (2 ^ 63 - 1) / 8 := by
        rw [sizeLine_eq] at hz2
        omega
      have c4 : Builtin.Tuple.tupleTooMany (((its.toArray.size : Nat) : Int) * k) = false := by
        unfold Builtin.Tuple.tupleTooMany
        exact decide_eq_false (by omega)
      have hf : (List.replicate k.toNat its).flatten.toArray.size ≤ sizeLine := by
        rw [List.size_toArray, PyProof.Rows.lm_len_rep_flat, Nat.mul_comm]
        simpa using hz1
      refine call_meets F.slot_tuple_mul ⟨_, ho, rfl⟩ F.entry_tuple_mul (F.args_tuple_mul_2 _ _) (tuple_mulW a its.toArray n dd sl k t c0 c1 c2 c3 c4 (by rw [size_rep]; exact hf)) ⟨ho, ?_⟩
      rw [size_rep]
      refine ⟨.ref s.heap.objs.size, _, I.laid (t' := s.toks) (o := .tup (List.replicate k.toNat xs).flatten) (fun b ob q => Heap.get?_push_of_some _ q) (Nat.le_refl _) ?_, rfl, qn _ (I.hok.fresh (Nat.le_refl _))⟩
      exact ⟨by rw [PyProof.Rows.lm_len_rep_flat, Nat.mul_comm]; exact hz, _, r.rep k.toNat, IsTup.new _ _⟩

/-! ### all of them -/
def rBin (K : PySem.W.Frag) (f : PyData → PyData → Option PyData) : R2 := fun x y H Q => ∃ ρ p q d, Own H ρ ∧ RDt K H ρ p x ∧ RDt K H ρ q y ∧ f p q = some d ∧ Out K H ρ d Q
theorem op_addP : OpR X (binaryOp .Add) (rBin X.K addP) := by
  intro pins s σ H x y v u Q I rx ry h
  obtain ⟨ρ, p, q, d, w, hp, hq, e, o⟩ := h
  cases p with
  | int i =>
    cases q with
    | int j =>
      cases e
      cases rdt_int hp
      cases rdt_int hq
      exact op_add pins s σ H _ _ v u Q I rx ry ⟨i, j, rfl, rfl, o.now (.int _)⟩
    | _ => exact nomatch e
  | list xs =>
    cases q with
    | list ys =>
      obtain ⟨a, vs, rfl, sa, da⟩ := hp
      obtain ⟨b, us, rfl, sb, db⟩ := hq
      simp only [addP] at e
      split at e
      · cases e
        rename_i hz
        refine op_catW pins s σ H _ _ v u Q I rx ry ⟨a, b, vs, us, rfl, rfl, sa, sb, by rw [← da.length, ← db.length]; exact hz, o.lst w (da.append db)⟩
      · cases e
    | _ => exact nomatch e
  | tuple xs =>
    cases q with
    | tuple ys =>
      obtain ⟨a, vs, rfl, sa, da⟩ := rdt_tup hp
      obtain ⟨b, us, rfl, sb, db⟩ := rdt_tup hq
      simp only [addP] at e
      split at e
      · cases e
        rename_i hz
        refine op_catA pins s σ H _ _ v u Q I rx ry ⟨a, b, vs, us, rfl, rfl, sa, sb, by rw [← da.length, ← db.length]; exact hz, fun hx => ?_, fun hx hy => ?_, fun _ _ => o.tup w (da.append db)⟩
        · subst hx
          cases da
          exact o.now hq
        · subst hy
          cases db
          rw [List.append_nil] at o
          exact o.now hp
      · cases e
    | _ => exact nomatch e
  | _ => cases q <;> exact nomatch e
theorem op_mulP : OpR X (binaryOp .Mult) (rBin X.K mulP) := by
  intro pins s σ H x y v u Q I rx ry h
  obtain ⟨ρ, p, q, d, w, hp, hq, e, o⟩ := h
  cases p with
  | int i =>
    cases q with
    | int j =>
      simp only [mulP] at e
      split at e
      · cases e
        rename_i hm
        cases rdt_int hp
        cases rdt_int hq
        exact op_mulW pins s σ H _ _ v u Q I rx ry ⟨i, j, rfl, rfl, (show CMulW i j from by unfold CMulW; exact of_decide_eq_true hm), o.now (.int _)⟩
      · cases e
    | _ => exact nomatch e
  | list xs =>
    cases q with
    | int k =>
      obtain ⟨a, vs, rfl, sa, da⟩ := hp
      cases rdt_int hq
      simp only [mulP] at e
      split at e
      · cases e
        rename_i hr
        simp only [repOk, Bool.and_eq_true, decide_eq_true_eq] at hr
        exact op_repW pins s σ H _ _ v u Q I rx ry ⟨a, k, vs, rfl, rfl, sa, hr.1.1, hr.1.2, by rw [← da.length]; exact hr.2, o.lst w (da.rep _)⟩
      · cases e
    | _ => exact nomatch e
  | tuple xs =>
    cases q with
    | int k =>
      obtain ⟨a, vs, rfl, sa, da⟩ := rdt_tup hp
      cases rdt_int hq
      simp only [mulP] at e
      split at e
      · cases e
        rename_i hr
        simp only [repOk, Bool.and_eq_true, decide_eq_true_eq] at hr
        refine op_repTW pins s σ H _ _ v u Q I rx ry ⟨a, k, vs, rfl, rfl, sa, hr.1.1, hr.1.2, by rw [← da.length]; exact hr.2, fun hh => ?_, o.tup w (da.rep _)⟩
        have ex : repL xs k = xs := by
          unfold repL
          rcases hh with z | z
          · subst z
            cases da
            exact rep_nil _
          · subst z
            exact rep_one _
        rw [ex] at o
        exact o.now hp
      · cases e
    | _ => exact nomatch e
  | _ => cases q <;> exact nomatch e
theorem op_ints {f : Value → Value → Sem Value} {g : Int → Int → Int} {C : Int → Int → Prop} {fp : PyData → PyData → Option PyData} (ho : OpR X f (rI C fun i j => .int (g i j)))
    (hf : ∀ p q d, fp p q = some d → ∃ i j, p = .int i ∧ q = .int j ∧ d = .int (g i j) ∧ C i j) : OpR X f (rBin X.K fp) := by
  intro pins s σ H x y v u Q I rx ry h
  obtain ⟨ρ, p, q, d, w, hp, hq, e, o⟩ := h
  obtain ⟨i, j, rfl, rfl, rfl, c⟩ := hf p q d e
  cases rdt_int hp
  cases rdt_int hq
  exact ho pins s σ H _ _ v u Q I rx ry ⟨i, j, rfl, rfl, c, o.now (.int _)⟩
theorem op_subP : OpR X (binaryOp .Sub) (rBin X.K (binP .Sub)) := by
  refine op_ints (g := fun i j => i - j) (C := fun _ _ => True) ?_ ?_
  · intro pins s σ H x y v u Q I rx ry ⟨i, j, e1, e2, _, q⟩
    exact op_sub pins s σ H x y v u Q I rx ry ⟨i, j, e1, e2, q⟩
  · intro p q d e
    cases p <;> cases q <;> first | (cases e; done) | (cases e; exact ⟨_, _, rfl, rfl, rfl, trivial⟩)
theorem op_divP : OpR X (binaryOp .FloorDiv) (rBin X.K (binP .FloorDiv)) := by
  refine op_ints (g := fun i j => i.fdiv j) (C := fun _ j => divOk j = true) (opI fun i j _ _ _ _ _ hc q => ?_) ?_
  · simp only [divOk, Bool.and_eq_true, decide_eq_true_eq] at hc
    exact floordiv_int hc.1 q (.inl (PyProof.noPylong_of_log2 hc.2))
  · intro p q d e
    cases p <;> cases q <;> first
      | (cases e; done)
      | (simp only [binP] at e; split at e; (rename_i h; cases e; exact ⟨_, _, rfl, rfl, rfl, h⟩); cases e)
theorem op_modP : OpR X (binaryOp .Mod) (rBin X.K (binP .Mod)) := by
  refine op_ints (g := fun i j => i.fmod j) (C := fun _ j => j ≠ 0) (opI fun i j _ _ _ _ _ hc q => mod_int' hc q) ?_
  intro p q d e
  cases p <;> cases q <;> first
    | (cases e; done)
    | (simp only [binP] at e; split at e; cases e; (rename_i h; cases e; exact ⟨_, _, rfl, rfl, rfl, h⟩))
theorem op_powP : OpR X (binaryOp .Pow) (rBin X.K (binP .Pow)) := by
  refine op_ints (g := fun i j => i ^ j.toNat) (C := fun i j => powOk i j = true) (opI fun i j _ _ _ _ _ hc q => ?_) ?_
  · simp only [powOk, Bool.and_eq_true, decide_eq_true_eq] at hc
    exact pow_int hc.1 hc.2 q
  · intro p q d e
    cases p <;> cases q <;> first
      | (cases e; done)
      | (simp only [binP] at e; split at e; (rename_i h; cases e; exact ⟨_, _, rfl, rfl, rfl, h⟩); cases e)
theorem op_none {f : Value → Value → Sem Value} {fp : PyData → PyData → Option PyData} (hf : ∀ p q, fp p q = none) : OpR X f (rBin X.K fp) := by
  intro pins s σ H x y v u Q I rx ry h
  obtain ⟨ρ, p, q, d, w, hp, hq, e, o⟩ := h
  rw [hf] at e
  cases e
theorem op_binP (o : Operator) : OpR X (binaryOp o) (rBin X.K (binP o)) := by
  cases o with
  | Add => exact op_addP
  | Sub => exact op_subP
  | Mult => exact op_mulP
  | FloorDiv => exact op_divP
  | Mod => exact op_modP
  | Pow => exact op_powP
  | _ => exact op_none fun _ _ => rfl
end
end Ev

set_option maxHeartbeats 4000000
/-! Ev: comparisons, items, slices, built-in functions. -/
namespace Ev
open PySem PySem.Spec PyProof.Rows L2
set_option autoImplicit false

/-! ### data as the library reads it -/
section
variable {K : PySem.W.Frag} {H : Hp} {ρ : List Addr}
mutual
theorem DR.dp : ∀ (d : PyData) (v : V), DR K H ρ d v → d.canLay0 = true → Dp K H v d
  | .none, _, h, _ => by cases h; exact .non
  | .bool b, _, h, _ => by cases h; exact .bl b
  | .int i, _, h, _ => by cases h; exact .int i
  | .str x, _, h, _ => by cases h; exact .str x
  | .list ds, _, h, c => by
    cases h with
    | lst q hs => exact .lst (Or.elim q (fun q => .inl q.1) WL.sq) (DRs.dp ds _ hs (by simpa [PyData.canLay0] using c))
  | .tuple ds, _, h, c => by
    cases h with
    | tup q hs => exact .tup (Or.elim q (fun q => .inl q.1) WT.sq) (DRs.dp ds _ hs (by simpa [PyData.canLay0] using c))
  | .dict _, _, _, c => by simp [PyData.canLay0] at c
theorem DRs.dp : ∀ (ds : List PyData) (vs : List V), DRs K H ρ ds vs → PyData.canLayAll0 ds = true → DpAll K H vs ds
  | [], _, h, _ => by cases h; exact .nil
  | d :: ds, _, h, c => by
    cases h with
    | cons a b =>
      have c' : d.canLay0 = true ∧ PyData.canLayAll0 ds = true := by simpa [PyData.canLayAll0] using c
      exact .cons (DR.dp d _ a c'.1) (DRs.dp ds _ b c'.2)
end
theorem rdt_dp {d : PyData} {v : V} (h : RDt K H ρ d v) (c : d.canLay0 = true) : Dp K H v d := by
  cases d with
  | list ds => obtain ⟨a, vs, rfl, q, hs⟩ := h; exact .lst q (DRs.dp ds _ hs (by simpa [PyData.canLay0] using c))
  | none => exact DR.dp _ _ h c
  | bool b => exact DR.dp _ _ h c
  | int i => exact DR.dp _ _ h c
  | str x => exact DR.dp _ _ h c
  | tuple ds => exact DR.dp _ _ h c
  | dict ps => simp [PyData.canLay0] at c
end
theorem keys_reads {h : Heap} {P : Program} {w : World} : ∀ {es : List DictEntry} {vs : List (Key × Value)} {ks : List (Key × V)}, Pairs (mixKind P w) es vs → KV ks vs → ∃ as, ReadsAll h (es.map (·.key)) (ks.map fun p => kD p.1) as ∧ as = []
  | [], _, _, p, r => by cases p; cases r; exact ⟨_, .nil, rfl⟩
  | e :: es, _, _, p, r => by
    cases p with
    | @cons _ kv _ kvs h1 h2 t =>
      cases r with
      | @cons p _ ps _ hq tr =>
        obtain ⟨as, ra, ea⟩ := keys_reads t tr
        subst ea
        have ek : p.1 = kv.1 := hq.1
        have h1' : keyIs kv.1 e.key = true := h1
        rcases keyIs_shape h1' with ⟨i, tk, e1, e2⟩ | ⟨x, tk, e1, e2⟩
        · refine ⟨_, .cons (as := []) ?_ ra, rfl⟩
          show Reads h e.key (kD p.1) []
          rw [ek, e1, e2]
          exact .int i tk
        · refine ⟨_, .cons (as := []) ?_ ra, rfl⟩
          show Reads h e.key (kD p.1) []
          rw [ek, e1, e2]
          exact .str x tk
section
variable {K : PySem.W.Frag} {H : Hp} {ρ : List Addr}
theorem DKs.keys : ∀ (ps : List (PyData × PyData)) (ks : List (Key × V)), DKs K H ρ ps ks → ps.map (·.1) = ks.map fun p => kD p.1
  | [], _, h => by cases h; rfl
  | _ :: ps, _, h => by
    cases h with
    | cons h1 h2 =>
      rw [List.map_cons, List.map_cons, DKs.keys ps _ h2]
end
section
variable {X : Cx} {pins : List (Addr × Obj)} {σ : L2.St} {H : Hp} {s : Shared} {ρ : List Addr}
/-- the dict of the modules is one -/
def SysD (h : Heap) : Prop := ∃ o es n, h.get? sysModules = some o ∧ o.data = .dict es n
theorem SysD.of (h : SysD X.base) (I : Inv X pins σ H s) : SysD s.heap := by
  obtain ⟨o, es, n, e, d⟩ := h
  exact ⟨o, es, n, (I.env0.bs _ _ e).1, d⟩
theorem SysD.seq {h : Heap} (y : SysD h) {a : Addr} {o : Obj} {its : Array Value} {n : Nat} (e : h.get? a = some o) (d : o.data = .seq its n) : a ≠ sysModules := by
  rintro rfl
  obtain ⟨o', es, m, e', d'⟩ := y
  rw [e] at e'
  cases e'
  rw [d] at d'
  cases d'
mutual
theorem DR.reads (y : SysD s.heap) (I : Inv X pins σ H s) : ∀ (d : PyData) (v : V) (u : Value), DR X.K H ρ d v → RelV v u → ∃ as, Reads s.heap u d as ∧ sysModules ∉ as
  | .none, _, _, h, r => by cases h; cases r; exact ⟨_, .none, by simp⟩
  | .bool b, _, _, h, r => by cases h; cases r; exact ⟨_, .bool b, by simp⟩
  | .int i, _, _, h, r => by cases h; obtain ⟨t, rfl⟩ := r; exact ⟨_, .int i t, by simp⟩
  | .str x, _, _, h, r => by cases h; obtain ⟨t, rfl⟩ := r; exact ⟨_, .str x t, by simp⟩
  | .list ds, _, _, h, r => by
    cases h with
    | lst q hs =>
      cases r
      obtain ⟨its, rv, ⟨o, n, ho, hc, _, hd⟩, _⟩ := I.list (Or.elim q (fun q => .inl q.1) WL.sq)
      obtain ⟨as, ra, na⟩ := DRs.reads y I ds _ _ hs rv
      exact ⟨_, .list ho hc hd ra, fun hm => by
        rcases List.mem_cons.mp hm with e | hm
        · exact y.seq ho hd e.symm
        · exact na hm⟩
  | .tuple ds, _, _, h, r => by
    cases h with
    | tup q hs =>
      cases r
      obtain ⟨its, rv, ⟨o, ho, hc, n, hd⟩, _⟩ := I.tuple (Or.elim q (fun q => .inl q.1) WT.sq)
      obtain ⟨as, ra, na⟩ := DRs.reads y I ds _ _ hs rv
      exact ⟨_, .tuple ho hc hd ra, na⟩
  | .dict ps, _, _, h, r => by
    cases h with
    | @dct a ks _ q nq hs =>
      cases r
      obtain ⟨_, ns, vs, kv, o, es, ep, ho, hx, hd, _, hp, _⟩ := q.ok I.hok
      obtain ⟨as, ra, ea⟩ := keys_reads (h := s.heap) hp kv
      obtain ⟨bs, rb, nb⟩ := DKs.reads y I ps ks es.toList vs hs hp kv
      have ek : ps.map (·.1) = ks.map fun p => kD p.1 := DKs.keys ps ks hs
      subst ea
      refine ⟨_, .dict ho hx.1 hd (by rw [ek]; exact ra) rb, fun hm => ?_⟩
      rcases List.mem_append.mp hm with hm | hm
      · rcases List.mem_cons.mp hm with e | hm
        · rw [← e] at ns
          simp at ns
        · cases hm
      · exact nb hm
theorem DRs.reads (y : SysD s.heap) (I : Inv X pins σ H s) : ∀ (ds : List PyData) (vs : List V) (us : List Value), DRs X.K H ρ ds vs → Vals vs us → ∃ as, ReadsAll s.heap us ds as ∧ sysModules ∉ as
  | [], _, _, h, r => by cases h; cases r; exact ⟨_, .nil, by simp⟩
  | d :: ds, _, _, h, r => by
    cases h with
    | cons h1 h2 =>
      cases r with
      | cons r1 r2 =>
        obtain ⟨as, q1, n1⟩ := DR.reads y I d _ _ h1 r1
        obtain ⟨bs, q2, n2⟩ := DRs.reads y I ds _ _ h2 r2
        refine ⟨_, .cons q1 q2, fun hm => ?_⟩
        rcases List.mem_append.mp hm with hm | hm
        · exact n1 hm
        · exact n2 hm
theorem DKs.reads (y : SysD s.heap) (I : Inv X pins σ H s) : ∀ (ps : List (PyData × PyData)) (ks : List (Key × V)) (es : List DictEntry) (vs : List (Key × Value)), DKs X.K H ρ ps ks → Pairs (mixKind X.prog X.w) es vs → KV ks vs →
    ∃ as, ReadsAll s.heap (es.map (·.val)) (ps.map (·.2)) as ∧ sysModules ∉ as
  | [], _, _, _, h, p, r => by cases h; cases r; cases p; exact ⟨_, .nil, by simp⟩
  | (k, d) :: ps, _, _, _, h, p, r => by
    cases h with
    | cons h1 h2 =>
      cases r with
      | cons r1 r2 =>
        cases p with
        | cons p1 p2 p3 =>
          obtain ⟨as, q1, n1⟩ := DR.reads y I d _ _ h1 r1.2
          obtain ⟨bs, q2, n2⟩ := DKs.reads y I ps _ _ _ h2 p3 r2
          refine ⟨as ++ bs, .cons (by have q := q1; rw [← p2] at q; exact q) q2, fun hm => ?_⟩
          rcases List.mem_append.mp hm with hm | hm
          · exact n1 hm
          · exact n2 hm
end
theorem rdt_reads (y : SysD s.heap) (I : Inv X pins σ H s) {d : PyData} {v : V} {u : Value} (h : RDt X.K H ρ d v) (r : RelV v u) : ∃ as, Reads s.heap u d as ∧ sysModules ∉ as := by
  cases d with
  | list ds =>
    obtain ⟨a, vs, rfl, q, hs⟩ := h
    cases r
    obtain ⟨its, rv, ⟨o, n, ho, hc, _, hd⟩, _⟩ := I.list q
    obtain ⟨as, ra, na⟩ := DRs.reads y I ds _ _ hs rv
    exact ⟨_, .list ho hc hd ra, fun hm => by
      rcases List.mem_cons.mp hm with e | hm
      · exact y.seq ho hd e.symm
      · exact na hm⟩
  | dict ps =>
    obtain ⟨a, ks, rfl, q, hs⟩ := h
    cases r
    obtain ⟨_, ns, vs, kv, o, es, ep, ho, hx, hd, _, hp, _⟩ := q.ok I.hok
    obtain ⟨as, ra, ea⟩ := keys_reads (h := s.heap) hp kv
    obtain ⟨bs, rb, nb⟩ := DKs.reads y I ps ks es.toList vs hs hp kv
    have ek : ps.map (·.1) = ks.map fun p => kD p.1 := DKs.keys ps ks hs
    subst ea
    refine ⟨_, .dict ho hx.1 hd (by rw [ek]; exact ra) rb, fun hm => ?_⟩
    rcases List.mem_append.mp hm with hm | hm
    · rcases List.mem_cons.mp hm with e | hm
      · rw [← e] at ns
        simp at ns
      · cases hm
    · exact nb hm
  | none => exact DR.reads y I _ _ _ h r
  | bool b => exact DR.reads y I _ _ _ h r
  | int i => exact DR.reads y I _ _ _ h r
  | str x => exact DR.reads y I _ _ _ h r
  | tuple ds => exact DR.reads y I _ _ _ h r
end
end Ev

set_option maxHeartbeats 1000000
/-! Ev: a dict is no tuple. -/
namespace Ev
open PySem PySem.Spec PyProof.Rows L2
open AutoSeq1 (wpAny_loadPart')
set_option autoImplicit false
theorem sub_tup_dict : isSubtype (.type "tuple") (.type "dict") = pure false := by rw [isSubtype_type]; kernel_rfl
theorem sub_dict_tup : isSubtype (.type "dict") (.type "tuple") = pure false := by rw [isSubtype_type]; kernel_rfl
theorem tup_eq_dict (l b : Addr) (items : Array Value) (n : Nat) (dd : Option Addr) (sl : Array (Option Value)) (dd2 : Option Addr) (data2 : Data) (sl2 : Array (Option Value)) :
    Meets (Builtin.«tuple.__eq__» ⟨[.ref l, .ref b], []⟩) (fun _ R s => s.heap.get? l = some { cls := .type "tuple", dict := dd, data := .seq items n, slots := sl } ∧ s.heap.get? b = some { cls := .type "dict", dict := dd2, data := data2, slots := sl2 } ∧ R (.ok (.ret .notImplemented)) s) :=
  .of_wp fun prog w A R s h => by obtain ⟨hp, g, d, tk, os⟩ := s; obtain ⟨hl, hb, h⟩ := h; have f1 := sub_dict_tup; wp_walk using wpAny_loadPart' hl, wpAny_loadPart' hb; exact ⟨_, rfl, h⟩
theorem dict_eq_tup {prog : Program} {w : World} {A : Around} {E : Value → Shared → Prop} {s : Shared} {a b : Addr} {o : Obj} {items : Array Value} {Q : Value → Shared → Prop} (ho : s.heap.get? a = some o) (hc : o.cls = .type "dict") (hb : s.heap.IsTuple b items) (hu : A.units < cLine) (h : Q (.bool false) s) :
    wpAny (model prog w) A (richCompare .Eq (.ref a) (.ref b)) Q E s := by
  obtain ⟨cls, dd, data, sl⟩ := o
  simp only at hc
  subst hc
  obtain ⟨⟨cls2, dd2, data2, sl2⟩, ho2, hc2, n2, hd2⟩ := id hb
  simp only at hc2 hd2
  subst hc2 hd2
  have hne : a ≠ b := fun e => by
    subst e
    rw [ho] at ho2
    exact absurd ho2 (by simp)
  have ht : s.TypeIs (.ref a) "dict" := ⟨_, ho, rfl⟩
  refine SeqAt.rc_eq_decline_or (k := false) ht ⟨_, ho2, rfl⟩ (by decide) sub_tup_dict PySem.F.slot_dict_eq PySem.F.slot_tuple_eq_refl
    (fun Q' hq => wpAny_call_entry PySem.F.slot_dict_eq ht PySem.F.entry_dict_eq ?_ (PySem.F.args_dict_eq_2 _ _))
    (fun _ hq => call_meets PySem.F.slot_tuple_eq_refl ⟨_, ho2, rfl⟩ PySem.F.entry_tuple_eq (PySem.F.args_tuple_eq_2 _ _) (tup_eq_dict b a items n2 dd2 sl2 dd data sl) ⟨ho2, ho, hq⟩)
    (fun _ hq => wpAny_isSame_ref_other hne ho ho2 (by simp) hq) (.inr hu) h
  show wpAny _ _ (Builtin.Dict.dictSlotArgs "__eq__" ⟨[.ref a, .ref b], []⟩ >>= _) _ _ s
  refine wpAny_bind ?_
  unfold Builtin.Dict.dictSlotArgs
  refine wpAny_bind (wpAny_notOrdered_dict ht ?_)
  show wpAny _ _ (pure (Value.ref a, Value.ref b)) _ _ s
  refine wpAny_pure ?_
  refine wpAny_bind (wpAny_isInstance (T := "tuple") ⟨_, ho2, rfl⟩ sub_tup_dict ?_)
  simp only [Bool.not_false, if_true]
  refine wpAny_bind (wpAny_rule ?_)
  exact wpAny_pure ⟨_, rfl, hq⟩
section
variable {X : Cx}
theorem op_dict_tup (hu : X.A.units + 64 < cLine) {pins : List (Addr × Obj)} {s : Shared} {σ : L2.St} {H : Hp} {ρ : List Addr} {Q : VK} (I : Inv X pins σ H s) {ps : List (PyData × PyData)} {xs : List PyData} {x y : V} {v u : Value} (hp : RDt X.K H ρ (.dict ps) x) (hq : RDt X.K H ρ (.tuple xs) y) (rx : RelV x v) (ry : RelV y u)
    (o : Q (.bl false) H) : wpAny (model X.prog X.w) X.A (compareOp .Eq v u) (EP X pins σ Q) X.xe s := by
  obtain ⟨a, ks, rfl, q, _⟩ := hp
  obtain ⟨b, us, rfl, sq, _⟩ := rdt_tup hq
  cases (show v = Value.ref a from rx)
  cases (show u = Value.ref b from ry)
  obtain ⟨_, ns, vs, kv, ob, es, ep, ho, hx, hd, _⟩ := q.ok I.hok
  obtain ⟨its, rv, p, _⟩ := I.tuple sq
  exact dict_eq_tup ho hx.1 p (by omega) ⟨.bl false, H, I, rfl, o⟩
end
end Ev

set_option maxHeartbeats 400000
/-! Ev: comparisons, items, slices, built-in functions. -/
namespace Ev
open PySem PySem.Spec PyProof.Rows L2
set_option autoImplicit false
section
variable {X : Cx}
/-! ### comparisons -/
def rCmp (K : PySem.W.Frag) (f : PyData → PyData → Option Bool) : R2 := fun x y H Q => ∃ ρ p q b, Own H ρ ∧ RDt K H ρ p x ∧ RDt K H ρ q y ∧ f p q = some b ∧ Q (.bl b) H
theorem op_intsB {f : Value → Value → Sem Value} {g : Int → Int → Bool} {fp : PyData → PyData → Option Bool} (ho : OpR X f (rI0 fun i j => .bl (g i j)))
    (hf : ∀ p q d, fp p q = some d → ∃ i j, p = .int i ∧ q = .int j ∧ d = g i j) : OpR X f (rCmp X.K fp) := by
  intro pins s σ H x y v u Q I rx ry h
  obtain ⟨ρ, p, q, b, w, hp, hq, e, o⟩ := h
  obtain ⟨i, j, rfl, rfl, rfl⟩ := hf p q b e
  cases rdt_int hp
  cases rdt_int hq
  exact ho pins s σ H _ _ v u Q I rx ry ⟨i, j, rfl, rfl, o⟩
theorem strsOf_rel {K : PySem.W.Frag} {H : Hp} {ρ : List Addr} : ∀ {ds : List PyData} {vs : List V} {ss : List Str}, DRs K H ρ ds vs → strsOf ds = some ss → vs = ss.map V.str
  | _, _, _, .nil, e => by cases e; rfl
  | d :: ds, v :: vs, _, .cons h t, e => by
    cases d with
    | str b =>
      unfold strsOf at e
      cases q : strsOf ds with
      | none => rw [q] at e; cases e
      | some cs =>
        rw [q] at e
        cases e
        cases h
        rw [strsOf_rel t q]
        rfl
    | _ => cases e
theorem flat_strs (ss : List Str) : (ss.map V.str).all flatV = true := by
  rw [List.all_eq_true]
  intro v hv
  obtain ⟨s, _, rfl⟩ := List.mem_map.mp hv
  rfl
theorem inV_strs (z : Str) : ∀ ss : List Str, inV (.str z) (ss.map V.str) = ss.any fun y => decide (y = z)
  | [] => rfl
  | s :: ss => by
    have ih := inV_strs z ss
    unfold inV at ih ⊢
    rw [List.map_cons, List.any_cons, List.any_cons, ih]
    congr 1
theorem inP_ok {K : PySem.W.Frag} {H : Hp} {ρ : List Addr} {p q : PyData} {x y : V} {b : Bool} (hp : RDt K H ρ p x) (hq : RDt K H ρ q y) (e : inP p q = some b) :
    (∃ a xs, y = .ref a ∧ (SqL K H a xs ∨ SqT K H a xs) ∧ flatV x = true ∧ xs.all flatV = true ∧ inV x xs = b) ∨
    ∃ ds, (q = .list ds ∨ q = .tuple ds) ∧ SeqAt.shaped p = true ∧ PyData.canLayAll0 ds = true ∧ b = ds.any fun z => PyData.eqv z p := by
  have gen : ∀ {ds : List PyData}, (q = .list ds ∨ q = .tuple ds) → inG p ds = some b → ∃ ds, (q = .list ds ∨ q = .tuple ds) ∧ SeqAt.shaped p = true ∧ PyData.canLayAll0 ds = true ∧ b = ds.any fun z => PyData.eqv z p := fun {ds} h e => by
    unfold inG at e
    split at e
    · rename_i hs
      rw [Bool.and_eq_true] at hs
      exact ⟨ds, h, hs.1, hs.2, (Option.some.inj e).symm⟩
    · cases e
  cases p with
  | str z =>
    cases rdt_str hp
    cases q with
    | list ds =>
      cases e1 : strsOf ds with
      | none => simp only [inP, e1] at e; exact .inr (gen (.inl rfl) e)
      | some ss =>
        simp only [inP, e1] at e
        cases e
        obtain ⟨a, vs, rfl, sq, hs⟩ := hq
        cases strsOf_rel hs e1
        exact .inl ⟨a, _, rfl, .inl sq, rfl, flat_strs ss, inV_strs z ss⟩
    | tuple ds =>
      cases e1 : strsOf ds with
      | none => simp only [inP, e1] at e; exact .inr (gen (.inr rfl) e)
      | some ss =>
        simp only [inP, e1] at e
        cases e
        obtain ⟨a, vs, rfl, sq, hs⟩ := rdt_tup hq
        cases strsOf_rel hs e1
        exact .inl ⟨a, _, rfl, .inr sq, rfl, flat_strs ss, inV_strs z ss⟩
    | _ => cases e
  | _ =>
    cases q with
    | list ds => exact .inr (gen (.inl rfl) e)
    | tuple ds => exact .inr (gen (.inr rfl) e)
    | _ => cases e
theorem in_reads {A : Around} {d : PyData} (hd : SeqAt.shaped d = true) (hu : A.units + 65 < cLine) (n : Nat) : A.units + 1 + min n d.depth < cLine := by
  have h1 := SeqAt.depth_of_shaped hd
  have h2 : min n d.depth ≤ d.depth := Nat.min_le_right _ _
  omega
theorem isN_ok {K : PySem.W.Frag} {H : Hp} {ρ : List Addr} {p q : PyData} {x y : V} {b : Bool} (hp : RDt K H ρ p x) (hq : RDt K H ρ q y) (e : isN p q = some b) : (∃ c d, x = .bl c ∧ y = .bl d ∧ b = decide (c = d)) ∨ (y = .non ∧ b = decide (x = .non)) := by
  cases q with
  | bool d =>
    cases p with
    | bool c =>
      cases rdt_bool hp
      cases rdt_bool hq
      cases e
      exact .inl ⟨_, _, rfl, rfl, rfl⟩
    | _ => cases e
  | none =>
    cases rdt_none hq
    right
    refine ⟨rfl, ?_⟩
    cases p with
    | none => cases rdt_none hp; cases e; rfl
    | bool c => cases rdt_bool hp; cases e; rfl
    | int c => cases rdt_int hp; cases e; rfl
    | str c => cases rdt_str hp; cases e; rfl
    | list c => obtain ⟨a, vs, rfl, _⟩ := hp; cases e; rfl
    | tuple c => obtain ⟨a, vs, rfl, _⟩ := rdt_tup hp; cases e; rfl
    | dict c => obtain ⟨a, vs, rfl, _⟩ := hp; cases e; rfl
  | _ => cases p <;> cases e
theorem pairs_at : ∀ (xs ys : List PyData) (f : PyData → PyData → Bool), ((xs.zip ys).all fun p => f p.1 p.2) = (List.range (min xs.length ys.length)).all fun j => (match xs[j]?, ys[j]? with | some a, some b => f a b | _, _ => true)
  | [], ys, f => by simp
  | x :: xs, [], f => by simp
  | x :: xs, y :: ys, f => by
    rw [List.zip_cons_cons, List.all_cons, pairs_at xs ys f, List.length_cons, List.length_cons, Nat.succ_min_succ, List.range_succ_eq_map, List.all_cons, List.all_map]
    rfl
theorem reads_all {h : Heap} : ∀ {us : List Value} {ds : List PyData} {as : List Addr}, ReadsAll h us ds as → us.length = ds.length ∧ ∀ (j : Nat) (h1 : j < us.length) (h2 : j < ds.length), ∃ bs, Reads h us[j] ds[j] bs
  | _, _, _, .nil => ⟨rfl, fun j h1 => absurd h1 (Nat.not_lt_zero _)⟩
  | _, _, _, .cons a b => by
    obtain ⟨l, q⟩ := reads_all b
    refine ⟨congrArg Nat.succ l, fun j h1 h2 => ?_⟩
    cases j with
    | zero => exact ⟨_, a⟩
    | succ j => exact q j (Nat.lt_of_succ_lt_succ h1) (Nat.lt_of_succ_lt_succ h2)
theorem eq_tups (hu : X.A.units + 64 < cLine) (yb : SysD X.base) {pins : List (Addr × Obj)} {s : Shared} {σ : L2.St} {H : Hp} {ρ : List Addr} {Q : VK} (I : Inv X pins σ H s) {xs ys : List PyData} {x y : V} {v u : Value} (hp : RDt X.K H ρ (.tuple xs) x) (hq : RDt X.K H ρ (.tuple ys) y) (rx : RelV x v) (ry : RelV y u)
    (hs : ((xs.zip ys).all fun p => elOk p.1 && elOk p.2) = true) (q : Q (.bl (((xs.zip ys).all fun p => PyData.eqv p.1 p.2) && decide (xs.length = ys.length))) H) : wpAny (model X.prog X.w) X.A (compareOp .Eq v u) (EP X pins σ Q) X.xe s := by
  have sy := yb.of I
  obtain ⟨a, vs, rfl, sa, da⟩ := rdt_tup hp
  obtain ⟨c, us, rfl, sc, dc⟩ := rdt_tup hq
  cases (show v = Value.ref a from rx)
  cases (show u = Value.ref c from ry)
  obtain ⟨i1, r1, p1, _⟩ := I.tuple sa
  obtain ⟨i2, r2, p2, _⟩ := I.tuple sc
  obtain ⟨as, ra, _⟩ := DRs.reads sy I xs _ _ da r1
  obtain ⟨bs, rb, _⟩ := DRs.reads sy I ys _ _ dc r2
  obtain ⟨l1, g1⟩ := reads_all ra
  obtain ⟨l2, g2⟩ := reads_all rb
  have R := SeqAt.RcAt.tuples (A := X.A) (s := s) p1 p2 (e := fun j => match xs[j]?, ys[j]? with | some a, some b => PyData.eqv a b | _, _ => true) (by omega) fun j h1 h2 => by
    rw [List.size_toArray] at h1 h2
    have k1 : j < xs.length := by omega
    have k2 : j < ys.length := by omega
    obtain ⟨as', q1⟩ := g1 j h1 k1
    obtain ⟨bs', q2⟩ := g2 j h2 k2
    rw [List.getElem?_eq_getElem k1, List.getElem?_eq_getElem k2]
    have el := List.all_eq_true.mp hs (xs[j], ys[j]) (by
      rw [List.mem_iff_getElem]
      exact ⟨j, by rw [List.length_zip]; omega, by rw [List.getElem_zip]⟩)
    simp only [elOk, Bool.and_eq_true, decide_eq_true_eq] at el
    obtain ⟨⟨c1, d1⟩, c2, d2⟩ := el
    have z := SeqAt.eqAt_reads _ _ X.A.in1 s _ _ _ _ q1 q2 c1 c2 (by
      have : X.A.in1.units ≤ X.A.units + 1 := by simp [Around.in1, Around.units]; try omega
      have : min xs[j].depth ys[j].depth ≤ xs[j].depth := Nat.min_le_left _ _
      omega)
    simpa using z
  rw [List.size_toArray, List.size_toArray, l1, l2, ← pairs_at (f := fun a b => PyData.eqv a b)] at R
  exact R X.prog X.w _ _ ⟨.bl _, H, I, rfl, by
    exact q⟩
theorem op_cmpP (hu65 : X.A.units + 65 < cLine) (yb : SysD X.base) (o : CmpOp) : OpR X (compareOp o) (rCmp X.K (cmpP o)) := by
  have hu : X.A.units + 64 < cLine := by omega
  cases o with
  | Eq =>
    intro pins s σ H x y v u Q I rx ry h
    obtain ⟨ρ, p, q, b, w, hp, hq, e, o⟩ := h
    have gen : (SeqAt.shaped p && SeqAt.shaped q) = true → PyData.eqv p q = b → wpAny (model X.prog X.w) X.A (compareOp .Eq v u) (EP X pins σ Q) X.xe s := by
      intro hs e
      rw [Bool.and_eq_true] at hs
      subst e
      exact op_eqD hu pins s σ H x y v u Q I rx ry ⟨p, q, rdt_dp hp (SeqAt.canLay_of_shaped hs.1), rdt_dp hq (SeqAt.canLay_of_shaped hs.2), hs.1, hs.2, o⟩
    simp only [cmpP] at e
    unfold eqP at e
    split at e
    · cases e
      cases rdt_str hp
      cases rdt_str hq
      exact op_eq pins s σ H _ _ v u Q I rx ry ⟨rfl, by rw [dec_str]; exact o⟩
    · rename_i xs ys
      split at e
      · split at e
        · rename_i hs
          exact gen hs (by cases e; rfl)
        · cases e
      · rename_i hl
        cases e
        obtain ⟨a, vs, rfl, sa, da⟩ := hp
        obtain ⟨c, us, rfl, sb, db⟩ := hq
        cases (show v = Value.ref a from rx)
        cases (show u = Value.ref c from ry)
        obtain ⟨us1, r1, p1, _⟩ := I.list sa
        obtain ⟨ws1, r2, p2, _⟩ := I.list sb
        have hne : (us1.toArray.size != ws1.toArray.size) = true := by
          rw [List.size_toArray, List.size_toArray, ← r1.length, ← r2.length, ← da.length, ← db.length]
          simpa using hl
        exact SeqAt.RcAt.lists_lengths p1.isList p2.isList hne (by omega) X.prog X.w _ _ ⟨.bl false, H, I, rfl, o⟩
    · split at e
      · rename_i hs
        cases e
        exact eq_tups hu yb I hp hq rx ry hs o
      · cases e
    · cases e
      exact op_dict_tup hu I hp hq rx ry o
    · split at e
      · rename_i hs
        exact gen hs (by cases e; rfl)
      · cases e
  | NotEq =>
    intro pins s σ H x y v u Q I rx ry h
    obtain ⟨ρ, p, q, b, w, hp, hq, e, o⟩ := h
    simp only [cmpP] at e
    split at e
    · cases e
      cases rdt_str hp
      cases rdt_str hq
      exact op_ne pins s σ H _ _ v u Q I rx ry ⟨rfl, by rw [dec_str]; exact o⟩
    split at e
    · rename_i hs
      rw [Bool.and_eq_true] at hs
      cases e
      exact op_neD hu pins s σ H x y v u Q I rx ry ⟨p, q, rdt_dp hp (SeqAt.canLay_of_shaped hs.1), rdt_dp hq (SeqAt.canLay_of_shaped hs.2), hs.1, hs.2, o⟩
    · cases e
  | Lt => exact op_intsB op_lt fun p q d e => by cases p <;> cases q <;> first | (cases e; done) | (cases e; exact ⟨_, _, rfl, rfl, rfl⟩)
  | LtE => exact op_intsB op_le fun p q d e => by cases p <;> cases q <;> first | (cases e; done) | (cases e; exact ⟨_, _, rfl, rfl, rfl⟩)
  | Gt => exact op_intsB op_gt fun p q d e => by cases p <;> cases q <;> first | (cases e; done) | (cases e; exact ⟨_, _, rfl, rfl, rfl⟩)
  | GtE => exact op_intsB op_ge fun p q d e => by cases p <;> cases q <;> first | (cases e; done) | (cases e; exact ⟨_, _, rfl, rfl, rfl⟩)
  | Is =>
    intro pins s σ H x y v u Q I rx ry h
    obtain ⟨ρ, p, q, b, w, hp, hq, e, o⟩ := h
    rcases isN_ok hp hq e with ⟨c, d, rfl, rfl, rfl⟩ | ⟨rfl, rfl⟩
    · exact op_is_bl pins s σ H _ _ v u Q I rx ry ⟨c, d, rfl, rfl, o⟩
    · exact op_isN pins s σ H _ _ v u Q I rx ry ⟨rfl, o⟩
  | IsNot =>
    intro pins s σ H x y v u Q I rx ry h
    obtain ⟨ρ, p, q, b, w, hp, hq, e, o⟩ := h
    obtain ⟨b', e2, rfl⟩ := Option.map_eq_some_iff.mp (show (isN p q).map (!·) = some b from e)
    rcases isN_ok hp hq e2 with ⟨c, d, rfl, rfl, rfl⟩ | ⟨rfl, rfl⟩
    · exact op_isnot_bl pins s σ H _ _ v u Q I rx ry ⟨c, d, rfl, rfl, o⟩
    · exact op_notN pins s σ H _ _ v u Q I rx ry ⟨rfl, o⟩
  | In =>
    intro pins s σ H x y v u Q I rx ry h
    obtain ⟨ρ, p, q, b, w, hp, hq, e, o⟩ := h
    rcases inP_ok hp hq e with ⟨a, xs, rfl, sq, f1, f2, rfl⟩ | ⟨ds, hds, hs, hc, rfl⟩
    · exact op_in_seq pins s σ H _ _ v u Q I rx ry ⟨a, xs, rfl, sq, f1, f2, o⟩
    · obtain ⟨as, r1⟩ := Dp.reads I p x v (rdt_dp hp (SeqAt.canLay_of_shaped hs)) rx
      rcases hds with rfl | rfl
      · obtain ⟨bs, r2⟩ := Dp.reads I (.list ds) y u (rdt_dp hq (by simpa [PyData.canLay0] using hc)) ry
        exact SeqAt.in_list_reads r2 r1 hc (SeqAt.canLay_of_shaped hs) (in_reads hs hu65 _) ⟨.bl _, H, I, rfl, o⟩
      · obtain ⟨bs, r2⟩ := Dp.reads I (.tuple ds) y u (rdt_dp hq (by simpa [PyData.canLay0] using hc)) ry
        exact SeqAt.in_tuple_reads r2 r1 hc (SeqAt.canLay_of_shaped hs) (in_reads hs hu65 _) ⟨.bl _, H, I, rfl, o⟩
  | NotIn =>
    intro pins s σ H x y v u Q I rx ry h
    obtain ⟨ρ, p, q, b, w, hp, hq, e, o⟩ := h
    obtain ⟨b', e2, rfl⟩ := Option.map_eq_some_iff.mp (show (inP p q).map (!·) = some b from e)
    rcases inP_ok hp hq e2 with ⟨a, xs, rfl, sq, f1, f2, rfl⟩ | ⟨ds, hds, hs, hc, rfl⟩
    · exact op_notIn_seq pins s σ H _ _ v u Q I rx ry ⟨a, xs, rfl, sq, f1, f2, o⟩
    · obtain ⟨as, r1⟩ := Dp.reads I p x v (rdt_dp hp (SeqAt.canLay_of_shaped hs)) rx
      rcases hds with rfl | rfl
      · obtain ⟨bs, r2⟩ := Dp.reads I (.list ds) y u (rdt_dp hq (by simpa [PyData.canLay0] using hc)) ry
        exact SeqAt.notIn_list_reads r2 r1 hc (SeqAt.canLay_of_shaped hs) (in_reads hs hu65 _) ⟨.bl _, H, I, rfl, o⟩
      · obtain ⟨bs, r2⟩ := Dp.reads I (.tuple ds) y u (rdt_dp hq (by simpa [PyData.canLay0] using hc)) ry
        exact SeqAt.notIn_tuple_reads r2 r1 hc (SeqAt.canLay_of_shaped hs) (in_reads hs hu65 _) ⟨.bl _, H, I, rfl, o⟩

/-! ### items and slices -/
theorem atI_rel {K : PySem.W.Frag} {H : Hp} {ρ : List Addr} {ds : List PyData} {vs : List V} (h : DRs K H ρ ds vs) {i : Int} {d : PyData} (e : atI ds i = some d) : ∃ v, atI vs i = some v ∧ DR K H ρ d v := by
  unfold atI at e ⊢
  rw [← h.length]
  cases q : ixN ds.length i with
  | none => rw [q] at e; cases e
  | some j =>
    rw [q] at e
    obtain ⟨v, h1, h2⟩ := h.get (i := j) e
    exact ⟨v, h1, h2⟩
theorem ix_P : IxR X (rBin X.K ixP) := by
  have go : IxR X (fun x y H Q => rIxL X.K x y H Q ∨ rIxT X.K x y H Q) := ix_list.or ix_tup
  intro value slice pins s σ H x y v u Q I rx ry h hpl
  obtain ⟨ρ, p, q, d, w, hp, hq, e, o⟩ := h
  refine go value slice pins s σ H x y v u Q I rx ry ?_ hpl
  cases p with
  | list ds =>
    cases q with
    | int i =>
      obtain ⟨a, vs, rfl, sq, hs⟩ := hp
      cases rdt_int hq
      obtain ⟨z, e1, r1⟩ := atI_rel hs e
      exact .inl ⟨a, vs, i, z, rfl, rfl, sq, e1, o.now r1⟩
    | _ => cases e
  | tuple ds =>
    cases q with
    | int i =>
      obtain ⟨a, vs, rfl, sq, hs⟩ := rdt_tup hp
      cases rdt_int hq
      obtain ⟨z, e1, r1⟩ := atI_rel hs e
      exact .inr ⟨a, vs, i, z, rfl, rfl, sq, e1, o.now r1⟩
    | _ => cases e
  | _ => cases q <;> cases e
def rSlP (K : PySem.W.Frag) : V → Option Int → Option Int → Hp → VK → Prop := fun x lo hi H Q => ∃ ρ p d, Own H ρ ∧ RDt K H ρ p x ∧ slP p lo hi = some d ∧ Out K H ρ d Q
theorem cut_rel {K : PySem.W.Frag} {H : Hp} {ρ : List Addr} {ds : List PyData} {vs : List V} (h : DRs K H ρ ds vs) (lo hi : Option Int) : DRs K H ρ (cutL ds lo hi) (cutV vs lo hi) := by
  unfold cutL cutV
  rw [← h.length]
  exact (h.drop _).take _
theorem sl_P : SlR X (rSlP X.K) := by
  intro pins s σ H x v vl vu lo hi sl Q I rx hs pl pu h
  obtain ⟨ρ, p, d, w, hp, e, o⟩ := h
  cases p with
  | list ds =>
    obtain ⟨a, vs, rfl, sq, hd⟩ := hp
    cases e
    exact sl_list pins s σ H _ v vl vu lo hi sl Q I rx hs pl pu ⟨a, vs, rfl, sq, o.lst w (cut_rel hd lo hi)⟩
  | tuple ds =>
    obtain ⟨a, vs, rfl, sq, hd⟩ := rdt_tup hp
    cases e
    refine sl_tupA pins s σ H _ v vl vu lo hi sl Q I rx hs pl pu ⟨a, vs, rfl, sq, fun hw => ?_, fun _ => o.tup w (cut_rel hd lo hi)⟩
    have ex : cutL ds lo hi = ds := by
      unfold cutL
      rw [hd.length, hw.1, hw.2, List.drop_zero, Nat.sub_zero]
      rw [← hd.length]
      exact List.take_length
    rw [ex] at o
    exact o.now hp
  | _ => cases e

/-! ### built-in functions -/
inductive RDts (K : PySem.W.Frag) (H : Hp) (ρ : List Addr) : List PyData → List V → Prop
  | nil : RDts K H ρ [] []
  | cons {d : PyData} {v : V} {ds : List PyData} {vs : List V} : RDt K H ρ d v → RDts K H ρ ds vs → RDts K H ρ (d :: ds) (v :: vs)
theorem rds_ok {K : PySem.W.Frag} {H : Hp} {ρ : List Addr} {m : Mem} (M : MR K H ρ m) : ∀ {us : List Vl} {vs : List V} {ds : List PyData}, VRs K H ρ us vs → rds m us = some ds → RDts K H ρ ds vs
  | _, _, _, .nil, e => by cases e; exact .nil
  | u :: us, _, _, .cons h t, e => by
    unfold rds at e
    cases q : rd m u with
    | none => rw [q] at e; cases e
    | some x =>
      rw [q] at e
      simp only at e
      cases q2 : rds m us with
      | none => rw [q2] at e; cases e
      | some xs =>
        rw [q2] at e
        cases e
        exact .cons (rd_ok M h q) (rds_ok M t q2)
def biVal : BI → Value
  | .int1 => .type "int"
  | .tuple1 => .type "tuple"
  | .list1 => .type "list"
  | .len => .builtin "len"
  | .abs => .builtin "abs"
  | .max2 => .builtin "max"
  | .min2 => .builtin "min"
  | .all1 => .builtin "all"
  | .any1 => .builtin "any"
  | .repr1 => .builtin "repr"
  | .divmod2 => .builtin "divmod"
  | .str1 => .type "str"
  | .max1 => .builtin "max"
  | .min1 => .builtin "min"
  | .sum1 => .builtin "sum"
def rBi (K : PySem.W.Frag) (b : BI) : List V → Hp → VK → Prop := fun xs H Q => ∃ ρ ds d, Own H ρ ∧ RDts K H ρ ds xs ∧ biP b ds = some d ∧ Out K H ρ d Q
theorem bools_rel {K : PySem.W.Frag} {H : Hp} {ρ : List Addr} : ∀ {ds : List PyData} {vs : List V} {bs : List Bool}, DRs K H ρ ds vs → bools ds = some bs → vs = bs.map V.bl
  | _, _, _, .nil, e => by cases e; rfl
  | d :: ds, v :: vs, _, .cons h t, e => by
    cases d with
    | bool b =>
      unfold bools at e
      cases q : bools ds with
      | none => rw [q] at e; cases e
      | some cs =>
        rw [q] at e
        cases e
        cases h
        rw [bools_rel t q]
        rfl
    | _ => cases e
theorem rdts1 {K : PySem.W.Frag} {H : Hp} {ρ : List Addr} {d : PyData} {vs : List V} (h : RDts K H ρ [d] vs) : ∃ v, vs = [v] ∧ RDt K H ρ d v := by
  cases h with
  | cons a b => cases b; exact ⟨_, rfl, a⟩
theorem rdts2 {K : PySem.W.Frag} {H : Hp} {ρ : List Addr} {d e : PyData} {vs : List V} (h : RDts K H ρ [d, e] vs) : ∃ v u, vs = [v, u] ∧ RDt K H ρ d v ∧ RDt K H ρ e u := by
  cases h with
  | cons a b =>
    obtain ⟨u, rfl, c⟩ := rdts1 b
    exact ⟨_, _, rfl, a, c⟩
theorem repr_run (yb : SysD X.base) (hg : X.A.guards = some []) (hu : X.A.units + 64 < cLine) {pins : List (Addr × Obj)} {s : Shared} {σ : L2.St} {H : Hp} {ρ : List Addr} {Q : VK} (I : Inv X pins σ H s) {x : PyData} {v : V} {u : Value} (h1 : RDt X.K H ρ x v) (rx : RelV v u)
    (h2 : x.showable = true) (h3 : x.shown.length ≤ sizeLine) (h4 : x.depth ≤ 60) (q : Q (.str x.shown) H) : wpAny (model X.prog X.w) X.A (call (.builtin "repr") [u]) (EP X pins σ Q) X.xe s := by
  obtain ⟨as, ra, na⟩ := rdt_reads (yb.of I) I h1 rx
  have fin : ∀ (h' : Heap) (t : Tok) (tk : Nat), (∀ b o, s.heap.get? b = some o → h'.get? b = some o) → EP X pins σ Q (.str x.shown t) { s with heap := h', toks := tk } :=
    fun h' t tk kp => ⟨.str x.shown, H, I.kept kp, ⟨t, rfl⟩, q⟩
  have hsm : x.hasDict = true → sysModules ∉ as := fun _ => na
  clear na h1 I
  cases ra with
  | none => exact PySem.P.repr_of_none (fin s.heap _ _ fun _ _ e => e)
  | bool b =>
    have q := fin s.heap s.toks (s.toks + 1) fun _ _ e => e
    refine PySem.P.repr_of_bool ?_
    have ex : (PyData.bool b).shown = (if b then "True" else "False" : Str) := by cases b <;> rfl
    rw [ex] at q
    exact q
  | int i t => exact PySem.P.repr_of_int (by simpa [PyData.showable] using h2) (fin s.heap _ _ fun _ _ e => e)
  | str z t => exact PySem.P.repr_of_str (fin s.heap _ _ fun _ _ e => e) h3
  | list a1 a2 a3 a4 => exact repr_of_reads' (.list a1 a2 a3 a4) h2 hsm hg (by omega) (fun _ _ e => e) (fun h' t tk kp => fin h' t tk kp) h3
  | tuple a1 a2 a3 a4 => exact repr_of_reads' (.tuple a1 a2 a3 a4) h2 hsm hg (by omega) (fun _ _ e => e) (fun h' t tk kp => fin h' t tk kp) h3
  | dict a1 a2 a3 a4 a5 => exact repr_of_reads' (.dict a1 a2 a3 a4 a5) h2 hsm hg (by omega) (fun _ _ e => e) (fun h' t tk kp => fin h' t tk kp) h3
/-- divmod, of a wide divisor -/
theorem call_divmodW : CallR X (.builtin "divmod") (fun xs H Q => ∃ i j, xs = [.int i, .int j] ∧ (0 < j ∧ j.natAbs.log2 < 9000) ∧ ∀ p, H p = none → Q (.ref p) (upd H p (.tup [.int (i / j), .int (i % j)]))) := by
  intro pins s σ H xs us Q I r h
  obtain ⟨i, j, rfl, ⟨h1, h2⟩, q⟩ := h
  obtain ⟨u, w', rfl, ⟨t, rfl⟩, ⟨t', rfl⟩⟩ := vals2 r
  refine divmod_int (by omega) ?_ (.inl (PyProof.noPylong_of_log2 h2))
  rw [Int.fdiv_eq_ediv_of_nonneg i (by omega), Int.fmod_eq_emod_of_nonneg i (by omega)]
  have hn : H s.heap.objs.size = none := I.hok.fresh (Nat.le_refl _)
  refine ⟨.ref s.heap.objs.size, _, ?_, rfl, q _ hn⟩
  refine I.laid (fun b o e => Heap.get?_push_of_some _ e) (Nat.le_refl _) ⟨by simp only [List.length_cons, List.length_nil]; rw [sizeLine_eq]; decide, [.int (i / j) s.toks, .int (i % j) (s.toks + 1)], .cons ⟨_, rfl⟩ (.cons ⟨_, rfl⟩ .nil), ?_⟩
  exact ⟨_, Heap.get?_push_size s.heap rfl, rfl, 0, rfl⟩
theorem ints_rel {K : PySem.W.Frag} {H : Hp} {ρ : List Addr} : ∀ {ds : List PyData} {vs : List V} {is : List Int}, DRs K H ρ ds vs → intsOf ds = some is → vs = is.map V.int
  | _, _, _, .nil, e => by cases e; rfl
  | _, _, _, .cons a b, e => by
    cases a with
    | int i =>
      simp only [intsOf, Option.map_eq_some_iff] at e
      obtain ⟨r, e1, rfl⟩ := e
      rw [ints_rel b e1]
      rfl
    | _ => cases e
theorem max_fold : ∀ (r : List Int) (i : Int), (r.foldl (fun a b => if b > a then b else a) i ∈ i :: r) ∧ ∀ y ∈ i :: r, y ≤ r.foldl (fun a b => if b > a then b else a) i
  | [], i => ⟨by simp, by simp⟩
  | j :: r, i => by
    rw [List.foldl_cons]
    obtain ⟨h1, h2⟩ := max_fold r (if j > i then j else i)
    refine ⟨?_, fun y hy => ?_⟩
    · rcases List.mem_cons.mp h1 with h | h
      · rw [h]; split <;> simp
      · simp [h]
    · have h3 := h2 (if j > i then j else i) (List.mem_cons_self ..)
      rcases List.mem_cons.mp hy with rfl | hy
      · by_cases q : j > y
        · rw [if_pos q] at h3 ⊢; omega
        · rw [if_neg q] at h3 ⊢; omega
      · rcases List.mem_cons.mp hy with rfl | hy
        · by_cases q : y > i
          · rw [if_pos q] at h3 ⊢; omega
          · rw [if_neg q] at h3 ⊢; omega
        · exact h2 y (List.mem_cons_of_mem _ hy)
theorem min_fold : ∀ (r : List Int) (i : Int), (r.foldl (fun a b => if b < a then b else a) i ∈ i :: r) ∧ ∀ y ∈ i :: r, r.foldl (fun a b => if b < a then b else a) i ≤ y
  | [], i => ⟨by simp, by simp⟩
  | j :: r, i => by
    rw [List.foldl_cons]
    obtain ⟨h1, h2⟩ := min_fold r (if j < i then j else i)
    refine ⟨?_, fun y hy => ?_⟩
    · rcases List.mem_cons.mp h1 with h | h
      · rw [h]; split <;> simp
      · simp [h]
    · have h3 := h2 (if j < i then j else i) (List.mem_cons_self ..)
      rcases List.mem_cons.mp hy with rfl | hy
      · by_cases q : j < y
        · rw [if_pos q] at h3 ⊢; omega
        · rw [if_neg q] at h3 ⊢; omega
      · rcases List.mem_cons.mp hy with rfl | hy
        · by_cases q : y < i
          · rw [if_pos q] at h3 ⊢; omega
          · rw [if_neg q] at h3 ⊢; omega
        · exact h2 y (List.mem_cons_of_mem _ hy)
theorem maxI_ok {is : List Int} {k : Int} (h : maxI is = some k) : k ∈ is ∧ ∀ y ∈ is, y ≤ k := by
  cases is with
  | nil => cases h
  | cons i r => cases h; exact max_fold r i
theorem minI_ok {is : List Int} {k : Int} (h : minI is = some k) : k ∈ is ∧ ∀ y ∈ is, k ≤ y := by
  cases is with
  | nil => cases h
  | cons i r => cases h; exact min_fold r i
theorem bi_P (yb : SysD X.base) (hc : X.calm = true) (hg : X.A.guards = some []) (hu : X.A.units + 64 < cLine) (b : BI) : CallR X (biVal b) (rBi X.K b) := by
  intro pins s σ H xs us Q I r h
  obtain ⟨ρ, ds, d, w, hd, e, o⟩ := h
  unfold biP at e
  split at e
  · obtain ⟨v, rfl, h1⟩ := rdts1 hd
    cases e
    obtain ⟨a, vs, rfl, sq, hs⟩ := h1
    exact call_len pins s σ H _ us Q I r ⟨_, _, rfl, .inl ⟨vs, sq, rfl⟩, by rw [← hs.length]; exact o.now (.int _)⟩
  · obtain ⟨v, rfl, h1⟩ := rdts1 hd
    cases e
    obtain ⟨a, vs, rfl, sq, hs⟩ := rdt_tup h1
    exact call_len pins s σ H _ us Q I r ⟨_, _, rfl, .inr ⟨vs, sq, rfl⟩, by rw [← hs.length]; exact o.now (.int _)⟩
  · obtain ⟨v, rfl, h1⟩ := rdts1 hd
    cases e
    cases rdt_int h1
    exact call_abs pins s σ H _ us Q I r ⟨_, rfl, o.now (.int _)⟩
  · obtain ⟨v, u, rfl, h1, h2⟩ := rdts2 hd
    cases e
    cases rdt_int h1
    cases rdt_int h2
    exact call_max2 hc pins s σ H _ us Q I r ⟨_, _, rfl, o.now (.int _)⟩
  · obtain ⟨v, u, rfl, h1, h2⟩ := rdts2 hd
    cases e
    cases rdt_int h1
    cases rdt_int h2
    exact call_min2 hc pins s σ H _ us Q I r ⟨_, _, rfl, o.now (.int _)⟩
  · obtain ⟨v, rfl, h1⟩ := rdts1 hd
    cases e
    cases rdt_int h1
    exact call_int1 pins s σ H _ us Q I r (.inl ⟨_, rfl, o.now (.int _)⟩)
  · obtain ⟨v, rfl, h1⟩ := rdts1 hd
    cases e
    cases rdt_bool h1
    exact call_int1 pins s σ H _ us Q I r (.inr ⟨_, rfl, o.now (.int _)⟩)
  · obtain ⟨v, rfl, h1⟩ := rdts1 hd
    cases e
    obtain ⟨a, vs, rfl, sq, hs⟩ := h1
    exact call_tuple_of pins s σ H _ us Q I r ⟨a, vs, rfl, .inl ⟨sq, o.tup w hs⟩⟩
  · obtain ⟨v, rfl, h1⟩ := rdts1 hd
    cases e
    obtain ⟨a, vs, rfl, sq, hs⟩ := rdt_tup h1
    exact call_tuple_of pins s σ H _ us Q I r ⟨a, vs, rfl, .inr ⟨sq, o.now h1⟩⟩
  · obtain ⟨v, rfl, h1⟩ := rdts1 hd
    cases e
    obtain ⟨a, vs, rfl, sq, hs⟩ := h1
    exact call_list_of pins s σ H _ us Q I r ⟨a, vs, rfl, .inl sq, o.lst w hs⟩
  · obtain ⟨v, rfl, h1⟩ := rdts1 hd
    cases e
    obtain ⟨a, vs, rfl, sq, hs⟩ := rdt_tup h1
    exact call_list_of pins s σ H _ us Q I r ⟨a, vs, rfl, .inr sq, o.lst w hs⟩
  · obtain ⟨v, rfl, h1⟩ := rdts1 hd
    obtain ⟨a, vs, rfl, sq, hs⟩ := h1
    simp only [Option.map_eq_some_iff] at e
    obtain ⟨bs, e1, rfl⟩ := e
    have ev := bools_rel hs e1
    subst ev
    exact cr_all hc pins s σ H _ us Q I r ⟨a, bs, rfl, sq, o.now (.bl _)⟩
  · obtain ⟨v, rfl, h1⟩ := rdts1 hd
    obtain ⟨a, vs, rfl, sq, hs⟩ := h1
    simp only [Option.map_eq_some_iff] at e
    obtain ⟨bs, e1, rfl⟩ := e
    have ev := bools_rel hs e1
    subst ev
    exact cr_any hc pins s σ H _ us Q I r ⟨a, bs, rfl, sq, o.now (.bl _)⟩
  · obtain ⟨v, rfl, h1⟩ := rdts1 hd
    split at e
    · rename_i hs
      cases e
      simp only [Bool.and_eq_true, decide_eq_true_eq] at hs
      obtain ⟨⟨h2, h3⟩, h4⟩ := hs
      obtain ⟨u, rfl, rx⟩ := vals1 r
      exact repr_run yb hg hu I h1 rx h2 h3 h4 (o.now (.str _))
    · cases e
  · obtain ⟨v, u, rfl, h1, h2⟩ := rdts2 hd
    cases rdt_int h1
    cases rdt_int h2
    split at e
    · rename_i hs
      cases e
      simp only [Bool.and_eq_true, decide_eq_true_eq] at hs
      exact call_divmodW pins s σ H _ us Q I r ⟨_, _, rfl, hs, o.tup w (.cons (.int _) (.cons (.int _) .nil))⟩
    · cases e
  · obtain ⟨v, rfl, h1⟩ := rdts1 hd
    cases rdt_int h1
    split at e
    · rename_i hs
      cases e
      exact call_str_int pins s σ H _ us Q I r ⟨_, rfl, hs, o.now (.str _)⟩
    · cases e
  · obtain ⟨v, rfl, h1⟩ := rdts1 hd
    cases rdt_str h1
    cases e
    exact SkE.call_str_str pins s σ H _ us Q I r ⟨_, rfl, o.now (.str _)⟩
  · obtain ⟨v, rfl, h1⟩ := rdts1 hd
    obtain ⟨a, vs, rfl, sq, hs⟩ := h1
    obtain ⟨is, e1, e⟩ := Option.bind_eq_some_iff.mp e
    obtain ⟨k, e2, rfl⟩ := Option.map_eq_some_iff.mp e
    have ev := ints_rel hs e1
    subst ev
    obtain ⟨m1, m2⟩ := maxI_ok e2
    exact cr_max hc pins s σ H _ us Q I r ⟨a, is, rfl, sq, List.length_pos_of_mem m1, fun m hm hy => by rw [Int.le_antisymm (m2 m hm) (hy k m1)]; exact o.now (.int _)⟩
  · obtain ⟨v, rfl, h1⟩ := rdts1 hd
    obtain ⟨a, vs, rfl, sq, hs⟩ := h1
    obtain ⟨is, e1, e⟩ := Option.bind_eq_some_iff.mp e
    obtain ⟨k, e2, rfl⟩ := Option.map_eq_some_iff.mp e
    have ev := ints_rel hs e1
    subst ev
    obtain ⟨m1, m2⟩ := minI_ok e2
    exact cr_min hc pins s σ H _ us Q I r ⟨a, is, rfl, sq, List.length_pos_of_mem m1, fun m hm hy => by rw [Int.le_antisymm (hy k m1) (m2 m hm)]; exact o.now (.int _)⟩
  · obtain ⟨v, rfl, h1⟩ := rdts1 hd
    obtain ⟨a, vs, rfl, sq, hs⟩ := h1
    obtain ⟨is, e1, rfl⟩ := Option.map_eq_some_iff.mp e
    have ev := ints_rel hs e1
    subst ev
    exact cr_sum hc pins s σ H _ us Q I r ⟨a, is, rfl, sq, o.now (.int _)⟩
  · cases e
/-! ### isinstance, truth -/
def tyOk (t : String) : Bool := decide (t = "int") || decide (t = "bool") || decide (t = "str") || decide (t = "tuple") || decide (t = "list") || decide (t = "dict")
theorem kit_P {K : PySem.W.Frag} (d : PyData) {t : String} (h : tyOk t = true) : PySem.W.kitOne K (.type (tyN d)) (.type t) = some (isP t d) := by
  simp only [tyOk, Bool.or_eq_true, decide_eq_true_eq] at h
  rcases h with ((((h | h) | h) | h) | h) | h <;> subst h <;> cases d <;> rfl
theorem rdt_ty {K : PySem.W.Frag} {H : Hp} {ρ : List Addr} {d : PyData} {v : V} (h : RDt K H ρ d v) : TyX K H v (.type (tyN d)) := by
  have rdL : ∀ {a : Addr} {vs : List V}, SqL K H a vs → TyX K H (.ref a) (.type "list") := fun {a vs} q => by
    rcases q with (q | ⟨o, q⟩) | ⟨o, its, n, q1, q2, _⟩
    · exact .base (.lst q)
    · exact .base (.frz q)
    · exact .kList q1 q2
  have rdT : ∀ {a : Addr} {vs : List V}, SqT K H a vs → TyX K H (.ref a) (.type "tuple") := fun {a vs} q => by
    rcases q with (q | ⟨o, q⟩) | ⟨o, its, n, q1, q2, _⟩
    · exact .base (.tup q)
    · exact .fTuple q
    · exact .kTuple q1 q2
  cases d with
  | none => cases rdt_none h; exact .base .non
  | bool b => cases rdt_bool h; exact .base (.bl b)
  | int i => cases rdt_int h; exact .base (.int i)
  | str x => cases rdt_str h; exact .base (.str x)
  | list ds => obtain ⟨a, vs, rfl, q, _⟩ := h; exact rdL q
  | tuple ds => obtain ⟨a, vs, rfl, q, _⟩ := rdt_tup h; exact rdT q
  | dict ps =>
    obtain ⟨a, ks, rfl, q, _⟩ := h
    rcases q with q | ⟨o, q⟩
    · exact .base (.dK q)
    · exact .fDict q
theorem isi_P {t : String} (ht : tyOk t = true) : CallR X (.builtin "isinstance") (fun xs H Q => ∃ ρ d x, xs = [x, .ty t] ∧ RDt X.K H ρ d x ∧ Q (.bl (isP t d)) H) := by
  intro pins s σ H xs us Q I r h
  obtain ⟨ρ, d, x, rfl, hd, q⟩ := h
  exact call_isi pins s σ H _ us Q I r ⟨x, .ty t, _, _, _, rfl, .ty t, rdt_ty hd, kit_P d ht, q⟩
theorem tru_P : TruR X (fun x H Q => ∃ ρ d b, RDt X.K H ρ d x ∧ truP d = some b ∧ Q b H) := by
  intro pins s σ H x v Q I rx h
  obtain ⟨ρ, d, b, hd, e, q⟩ := h
  refine tru_ok pins s σ H x v Q I rx ⟨b, ?_, q⟩
  cases d with
  | none => cases rdt_none hd; cases e; rfl
  | bool c => cases rdt_bool hd; cases e; rfl
  | int i => cases rdt_int hd; cases e; rfl
  | list ds =>
    obtain ⟨a, vs, rfl, sq, hs⟩ := hd
    cases e
    exact .inl ⟨vs, sq, by cases hs <;> rfl⟩
  | tuple ds =>
    obtain ⟨a, vs, rfl, sq, hs⟩ := rdt_tup hd
    cases e
    exact .inr (.inl ⟨vs, sq, by cases hs <;> rfl⟩)
  | _ => cases e
end
end Ev

set_option maxHeartbeats 4000000
/-! Ev: a list or a tuple turned about. -/
namespace Ev
open PySem PySem.Spec PyProof.Rows L2 HT
section
variable {prog : Program} {w : World} {A : Around} {E : Value → Shared → Prop} {s : Shared}
theorem adjust_rev (n : Nat) : Builtin.Slice.sliceAdjust none none (-1) (n : Int) = ((n : Int) - 1, -1) := by
  unfold Builtin.Slice.sliceAdjust
  simp
theorem places_rev (n : Nat) : Builtin.Slice.slicePlaces ((n : Int) - 1) (-1) (-1) = n := by
  unfold Builtin.Slice.slicePlaces
  have h1 : ¬ ((-1 : Int) > 0) := by decide
  have h2 : (-(-1) : Int) = 1 := by decide
  simp only [h1, if_false, h2, Int.ediv_one]
  split <;> omega
theorem applied_rev {sl : Addr} {vk : Value} {n : Nat} {Q : Int × Int × Nat → Shared → Prop} (hs : s.heap.IsSliceOf sl .none .none vk) (pk : IsPart vk (some (-1)))
    (h : Q ((n : Int) - 1, -1, n) s) : wpAny (model prog w) A (Builtin.Slice.sliceApplied (.ref sl) (pure (n : Int))) Q E s := by
  obtain ⟨os, hos, hcs, hds⟩ := id hs
  unfold Builtin.Slice.sliceApplied Builtin.Slice.sliceFields
  refine wpAny_bind (wpAny_bind (wpAny_field hos hds (x := .none) rfl (wpAny_bind (wpAny_field hos hds (x := .none) rfl (wpAny_bind (wpAny_field hos hds (x := vk) rfl (wpAny_pure ?_)))))))
  refine wpAny_bind (slicePart_ pk ?_)
  show wpAny _ _ (if ((-1 : Int) == 0) = true then _ else _) _ _ s
  rw [if_neg (by decide)]
  refine wpAny_bind (slicePart_none (wpAny_bind (slicePart_none (wpAny_bind (wpAny_pure ?_)))))
  show wpAny _ _ (match Builtin.Slice.sliceAdjust none none (-1) (n : Int) with | (lo, hi) => pure (lo, (-1 : Int), Builtin.Slice.slicePlaces lo hi (-1))) _ _ s
  rw [adjust_rev n]
  show wpAny _ _ (pure ((n : Int) - 1, (-1 : Int), Builtin.Slice.slicePlaces ((n : Int) - 1) (-1) (-1))) _ _ s
  rw [places_rev]
  exact wpAny_pure h
theorem fm_congr {α β : Type} {f g : α → Option β} : ∀ {l : List α}, (∀ x ∈ l, f x = g x) → l.filterMap f = l.filterMap g
  | [], _ => rfl
  | x :: l, h => by
    rw [List.filterMap_cons, List.filterMap_cons, h x (List.mem_cons_self ..), fm_congr fun y hy => h y (List.mem_cons_of_mem _ hy)]
theorem pick_rev (xs : Array Value) : ((List.range xs.size).filterMap fun (k : Nat) => xs[(((xs.size : Int) - 1) + (k : Int) * (-1)).toNat]?).toArray = xs.toList.reverse.toArray := by
  have e : (List.range xs.size).filterMap (fun (k : Nat) => xs[(((xs.size : Int) - 1) + (k : Int) * (-1)).toNat]?) = ((List.range xs.size).map fun k => xs.size - 1 - k).filterMap (xs[·]?) := by
    rw [List.filterMap_map]
    apply fm_congr
    intro k hk
    have := List.mem_range.mp hk
    show _ = xs[xs.size - 1 - k]?
    rw [show (((xs.size : Int) - 1) + (k : Int) * (-1)).toNat = xs.size - 1 - k by omega]
  rw [e, PySem.W.krv_range, List.filterMap_reverse, PySem.W.krv_all]
theorem getItem_tuple_rev {t sl : Addr} {items : Array Value} {vk : Value} {Q : Value → Shared → Prop} (ht : IsTup s.heap t items) (hs : s.heap.IsSliceOf sl .none .none vk) (pk : IsPart vk (some (-1)))
    (h : Q (.ref s.heap.objs.size) { s with heap := s.heap.push { cls := .type "tuple", data := .seq items.toList.reverse.toArray } })
    (hsz : items.size ≤ sizeLine) : wpAny (model prog w) A (getItem (.ref t) (.ref sl)) Q E s := by
  have htake : sizeOk (.seq items.toList.reverse.toArray) := by
    show items.toList.reverse.toArray.size ≤ sizeLine
    rw [List.size_toArray, List.length_reverse, Array.length_toList]
    omega
  obtain ⟨os, hos, hcs, hds⟩ := id hs
  have hTs : s.TypeIs (.ref sl) "slice" := ⟨os, hos, hcs⟩
  unfold getItem
  try with_reducible refine wpAny_holding ?_
  first | refine wpAny_bind (wpAny_pure ?_) | skip
  refine wpAny_bind (wpAny_sequenceKey ht.typeIs (by decide) ?_)
  refine wpAny_bind (wpAny_callSpecial?_slot (name := Str.ofString "__getitem__") ht.typeIs PyProof.Rows.slot_tuple_getitem
    (wpAny_call_entry PyProof.Rows.slot_tuple_getitem ht.typeIs entry_tuple_getitem ?_ (args_tuple_getitem _ _)))
  show wpAny _ _ (Builtin.Tuple.tupleItemsOf (.ref t) >>= _) _ _ s
  refine wpAny_bind (tupleItemsOf_ ht ?_)
  refine wpAny_bind (wpAny_typeOf hTs ?_)
  rw [if_pos (by decide)]
  refine wpAny_bind (applied_rev hs pk ?_)
  have hno : ¬ ((((items.size : Int) - 1) == 0 && (-1 : Int) == 1 && items.size == items.size) = true) := by
    intro q
    rw [Bool.and_eq_true, Bool.and_eq_true] at q
    exact absurd q.1.2 (by decide)
  show wpAny _ _ (if (((items.size : Int) - 1) == 0 && (-1 : Int) == 1 && items.size == items.size) = true then _ else _) _ _ s
  rw [if_neg hno, pick_rev]
  first
    | exact wpAny_bind (m := Builtin.Tuple.tupleExact _) (wpAny_newObj_type (wpAny_pure ⟨_, rfl, wpAny_pure h⟩) htake)
    | exact wpAny_bind (m := Builtin.Tuple.tupleExact _) (wpAny_newObj_type (wpAny_bind (wpAny_pure (wpAny_pure ⟨_, rfl, wpAny_pure h⟩))) htake)
    | exact wpAny_bind (wpAny_bind (m := Builtin.Tuple.tupleExact _) (wpAny_newObj_type (wpAny_pure (wpAny_pure ⟨_, rfl, wpAny_pure h⟩)) htake))
    | exact wpAny_bind (wpAny_bind (m := Builtin.Tuple.tupleExact _) (wpAny_newObj_type (wpAny_pure ⟨_, rfl, wpAny_pure h⟩) htake))
end
section
variable {X : Cx} {e k : Expr} {te tk : TE} {pos p2 : Pos}
def rRv (K : PySem.W.Frag) : V → Hp → VK → Prop := fun x H Q => ∃ ρ p d, Own H ρ ∧ RDt K H ρ p x ∧ revP p = some d ∧ Out K H ρ d Q
theorem vals_rev {vs : List V} {us : List Value} (h : Vals vs us) : Vals vs.reverse us.reverse := by
  induction h with
  | nil => exact .nil
  | cons h1 _ ih =>
    rw [List.reverse_cons, List.reverse_cons]
    exact ih.append (.cons h1 .nil)
theorem drs_rev {K : PySem.W.Frag} {H : Hp} {ρ : List Addr} {ds : List PyData} {vs : List V} (h : DRs K H ρ ds vs) : DRs K H ρ ds.reverse vs.reverse := by
  induction ds generalizing vs with
  | nil => cases h; exact .nil
  | cons d ds ih =>
    cases h with
    | cons h1 h2 =>
      rw [List.reverse_cons, List.reverse_cons]
      exact (ih h2).append (.cons h1 .nil)
theorem pe_rev (he : PE X e te) (hk : PE X k tk) : PE X (.Subscript e (.Slice none none (some k) p2) pos) (fun σ H Q => te σ H fun x H1 => tk σ H1 fun y H2 => y = .int (-1) ∧ rRv X.K x H2 Q) := by
  refine ⟨fun pins s σ H Q I h => ?_⟩
  refine Subscript_ (thn (he.run pins s σ H _ I h) fun v s1 ⟨x, H1, I1, r1, q1⟩ => ?_)
  refine wpAny_Slice ?_
  rw [evalPart_none]
  refine wpAny_pure ?_
  refine wpAny_pure ?_
  rw [evalPart_some]
  refine thn (hk.run pins s1 σ H1 _ I1 q1) fun vk s3 ⟨y, H3, I3, pk, hy, q3⟩ => ?_
  subst hy
  obtain ⟨tt, rfl⟩ := pk
  have I4 : Inv X pins σ H3 { s3 with heap := s3.heap.push { cls := .type "slice", data := .fields #[.none, .none, .int (-1) tt] } } := I3.kept (t' := s3.toks) fun b ob q => Heap.get?_push_of_some _ q
  have hs : Heap.IsSliceOf (s3.heap.push { cls := .type "slice", data := .fields #[.none, .none, .int (-1) tt] }) s3.heap.objs.size .none .none (.int (-1) tt) := Heap.IsSliceOf.new ..
  have pk : IsPart (.int (-1) tt) (some (-1)) := .int (-1) tt
  show wpAny (model X.prog X.w) X.A (subscriptTail e (.Slice none none (some k) p2) v (.ref s3.heap.objs.size)) (EP X pins σ Q) X.xe { s3 with heap := s3.heap.push { cls := .type "slice", data := .fields #[.none, .none, .int (-1) tt] } }
  obtain ⟨ρ, p, d, w, hp, hd, o⟩ := q3
  generalize hs4 : ({ s3 with heap := s3.heap.push { cls := .type "slice", data := .fields #[.none, .none, .int (-1) tt] } } : Shared) = s4 at I4 ⊢
  have hs : s4.heap.IsSliceOf s3.heap.objs.size .none .none (.int (-1) tt) := by rw [← hs4]; exact hs
  cases p with
  | list ds =>
    obtain ⟨a, vs, rfl, sq, hvs⟩ := hp
    cases hd
    cases r1
    obtain ⟨its, r, ht, hz⟩ := I4.list sq
    refine tail_any (ops := [.ref a, .ref s3.heap.objs.size]) ht.isList.typeIs slot_list_getitem.lookup ?_ (by with_unfolding_all rfl)
    refine wpAny_getItem_list_slice ht.isList hs .none .none pk (by decide) ?_ (by rw [List.size_toArray] <;> have := r.length <;> omega)
    rw [PySem.W.krv_pick]
    refine ⟨.ref s4.heap.objs.size, _, I4.laid (t' := s4.toks) (o := .lst vs.reverse) (fun b ob q => Heap.get?_push_of_some _ q) (Nat.le_refl _) ?_, rfl, o.lst w (drs_rev hvs) _ (I4.hok.fresh (Nat.le_refl _))⟩
    exact ⟨by rw [List.length_reverse]; exact hz, _, 0, vals_rev r, Heap.get?_push_size _ rfl⟩
  | tuple ds =>
    obtain ⟨a, vs, rfl, sq, hvs⟩ := rdt_tup hp
    cases hd
    cases r1
    obtain ⟨its, r, ht, hz⟩ := I4.tuple sq
    refine tail_any (ops := [.ref a, .ref s3.heap.objs.size]) ht.typeIs PyProof.Rows.slot_tuple_getitem.lookup ?_ (by with_unfolding_all rfl)
    refine getItem_tuple_rev ht hs pk ?_ (by rw [List.size_toArray]; have := r.length; omega)
    refine ⟨.ref s4.heap.objs.size, _, I4.laid (t' := s4.toks) (o := .tup vs.reverse) (fun b ob q => Heap.get?_push_of_some _ q) (Nat.le_refl _) ?_, rfl, o.tup w (drs_rev hvs) _ (I4.hok.fresh (Nat.le_refl _))⟩
    exact ⟨by rw [List.length_reverse]; exact hz, _, vals_rev r, IsTup.new _ _⟩
  | _ => cases hd
end
end Ev

set_option maxHeartbeats 1000000
/-! Ev: calls of the text's own functions; the end of a call. -/
namespace Ev
open PySem PySem.Spec PyProof.Rows L2
set_option autoImplicit false

/-- as the layer's promise of a def, where no repr is under way -/
structure FnP (P : Program) (w : World) (K : PySem.W.Frag) (mg : Str → Option Value) (base : Heap) (CX : CXT) (k : Nat) (f : Addr) (fd : FuncData) (ps : List Str) (sp : Sp) : Prop where
  len : ∀ vs H Q E, sp vs H Q E → vs.length = ps.length
  run : ∀ (A : Around) (outer : List Env) (s : Shared) (H : Hp) (args : Args) (us : List Value) (vs : List V) (Q : VK) (E : XK), Room k A → A.guards = some [] →
    Env0 P w K mg base A outer s H → BindsTo s fd args (ps.zip us) → Vals vs us → sp vs H Q E → codeAny (model P w) A (.call (.ref f) args) (CR CX outer P w H s Q E) s
section
variable {X : Cx} {CX : CXT} {k : Nat} {f : Addr} {fd : FuncData} {ps : List Str} {sp : Sp} {E : XK} {x : Str} {p pos : Pos}
theorem runP {pins : List (Addr × Obj)} {σ : St} {H : Hp} {s : Shared} {Q : VK} {us : List Value} {vs : List V} (F : FnP X.prog X.w X.K X.mg X.base CX k f fd ps sp) (hr : Room k X.A) (hg : X.A.guards = some [])
    (hb : Binds X.K fd ps []) (hx : Passes CX X E) (I : Inv X pins σ H s) (r : Vals vs us) (h : sp vs H Q E) : wpAny (model X.prog X.w) X.A (call (.ref f) us) (EP X pins σ Q) X.xe s := by
  have hl : us.length = ps.length := by rw [← r.length]; exact F.len _ _ _ _ h
  have hb' := hb s us I.kIn (by rw [List.append_nil]; exact hl)
  rw [List.append_nil] at hb'
  refine wpAny_call (codeAny_mono (F.run X.A X.stack s H ⟨us, []⟩ us vs Q E hr hg I.env0 hb' r h) fun z s' hq => ?_)
  match z, hq with
  | .error e, hq => exact hx pins σ H s e s' I hq
  | .ok (.ret u), hq => exact I.after hq
  | .ok .next, hq => exact hq.elim
  | .ok .brk, hq => exact hq.elim
  | .ok .cont, hq => exact hq.elim
theorem pe_callP0 (F : FnP X.prog X.w X.K X.mg X.base CX k f fd ps sp) (hr : Room k X.A) (hgu : X.A.guards = some []) (hg : Gl X x) (hm : X.mg x = some (.ref f)) (hk : PySem.W.keepIn X.K (.ref f) = true)
    (hb : Binds X.K fd ps []) (hx : Passes CX X E) (hdb : (x == ("__debug__" : Str)) = false) : PE X (.Call (.Name x p) [] [] pos) (fun σ H Q => sp [] H Q E) :=
  ⟨fun pins s σ H Q I h => wpAny_Call_Name_kw (ld_glob I hg hm (PySem.W.callWith_K0 I.kIn hk (runP (us := []) F hr hgu hb hx I .nil h)) hdb)⟩
theorem pe_callP {e : Expr} {es : List Expr} {t : TA} (F : FnP X.prog X.w X.K X.mg X.base CX k f fd ps sp) (hr : Room k X.A) (hgu : X.A.guards = some []) (hg : Gl X x) (hm : X.mg x = some (.ref f)) (hk : PySem.W.keepIn X.K (.ref f) = true)
    (hb : Binds X.K fd ps []) (hx : Passes CX X E) (ha : PA X (e :: es) t) (hdb : (x == ("__debug__" : Str)) = false)
    (he : starEach (e :: es) X.env = (false, eval e X.env) :: starEach es X.env) (hpl : (backTo pos (starEach es X.env)).any (·.1) = false) :
    PE X (.Call (.Name x p) (e :: es) [] pos) (fun σ H Q => t σ H fun vs H1 => sp vs H1 Q E) :=
  ⟨fun pins s σ H Q I h => wpAny_Call_Name_kw (ld_glob I hg hm (PySem.W.callWith_K (h₀ := X.base) I.ok.mod.kin hk
    (thn (ha.run pos pins s σ H _ I h) fun us s1 ⟨vs, H1, I1, r, q⟩ => ⟨I1.kIn, runP F hr hgu hb hx I1 r q⟩) he hpl) hdb)⟩
end
section
variable {X : Cx} {CX : CXT} {k : Nat} {f : Addr} {fd : FuncData} {ps : List Str} {sp : Sp} {E : St → XK} {x : Str} {p pos : Pos}
theorem runPS {pins : List (Addr × Obj)} {σ : St} {H : Hp} {s : Shared} {Q : VK} {us : List Value} {vs : List V} (F : FnP X.prog X.w X.K X.mg X.base CX k f fd ps sp) (hr : Room k X.A) (hg : X.A.guards = some [])
    (hb : Binds X.K fd ps []) (hx : PassesAt CX X σ (E σ)) (I : Inv X pins σ H s) (r : Vals vs us) (h : sp vs H Q (E σ)) : wpAny (model X.prog X.w) X.A (call (.ref f) us) (EP X pins σ Q) X.xe s := by
  have hl : us.length = ps.length := by rw [← r.length]; exact F.len _ _ _ _ h
  have hb' := hb s us I.kIn (by rw [List.append_nil]; exact hl)
  rw [List.append_nil] at hb'
  refine wpAny_call (codeAny_mono (F.run X.A X.stack s H ⟨us, []⟩ us vs Q (E σ) hr hg I.env0 hb' r h) fun z s' hq => ?_)
  match z, hq with
  | .error e, hq => exact hx pins H s e s' I hq
  | .ok (.ret u), hq => exact I.after hq
  | .ok .next, hq => exact hq.elim
  | .ok .brk, hq => exact hq.elim
  | .ok .cont, hq => exact hq.elim
theorem pe_callPS0 (F : FnP X.prog X.w X.K X.mg X.base CX k f fd ps sp) (hr : Room k X.A) (hgu : X.A.guards = some []) (hg : Gl X x) (hm : X.mg x = some (.ref f)) (hk : PySem.W.keepIn X.K (.ref f) = true)
    (hb : Binds X.K fd ps []) (hx : ∀ σ, PassesAt CX X σ (E σ)) (hdb : (x == ("__debug__" : Str)) = false) : PE X (.Call (.Name x p) [] [] pos) (fun σ H Q => sp [] H Q (E σ)) :=
  ⟨fun pins s σ H Q I h => wpAny_Call_Name_kw (ld_glob I hg hm (PySem.W.callWith_K0 I.kIn hk (runPS (us := []) F hr hgu hb (hx σ) I .nil h)) hdb)⟩
theorem pe_callPS {e : Expr} {es : List Expr} {t : TA} (F : FnP X.prog X.w X.K X.mg X.base CX k f fd ps sp) (hr : Room k X.A) (hgu : X.A.guards = some []) (hg : Gl X x) (hm : X.mg x = some (.ref f)) (hk : PySem.W.keepIn X.K (.ref f) = true)
    (hb : Binds X.K fd ps []) (hx : ∀ σ, PassesAt CX X σ (E σ)) (ha : PA X (e :: es) t) (hdb : (x == ("__debug__" : Str)) = false)
    (he : starEach (e :: es) X.env = (false, eval e X.env) :: starEach es X.env) (hpl : (backTo pos (starEach es X.env)).any (·.1) = false) :
    PE X (.Call (.Name x p) (e :: es) [] pos) (fun σ H Q => t σ H fun vs H1 => sp vs H1 Q (E σ)) :=
  ⟨fun pins s σ H Q I h => wpAny_Call_Name_kw (ld_glob I hg hm (PySem.W.callWith_K (h₀ := X.base) I.ok.mod.kin hk
    (thn (ha.run pos pins s σ H _ I h) fun us s1 ⟨vs, H1, I1, r, q⟩ => ⟨I1.kIn, runPS F hr hgu hb (hx σ) I1 r q⟩) he hpl) hdb)⟩
end
/-! with defaults, with keywords -/
section
variable {X : Cx} {CX : CXT} {k n : Nat} {f : Addr} {fd : FuncData} {ps ks : List Str} {sp : Sp} {E : St → XK} {x : Str} {p pos : Pos} {dvs : List V} {ds : List Value}
theorem runAt {pins : List (Addr × Obj)} {σ : St} {H : Hp} {s : Shared} {Q : VK} {us bs : List Value} {kw : List (Str × Value)} {vs : List V} (F : FnP X.prog X.w X.K X.mg X.base CX k f fd ps sp) (hr : Room k X.A) (hg : X.A.guards = some [])
    (hb : BindsTo s fd ⟨us, kw⟩ (ps.zip bs)) (hx : PassesAt CX X σ (E σ)) (I : Inv X pins σ H s) (r : Vals vs bs) (h : sp vs H Q (E σ)) : wpAny (model X.prog X.w) X.A (call (.ref f) us kw) (EP X pins σ Q) X.xe s := by
  refine wpAny_call (codeAny_mono (F.run X.A X.stack s H ⟨us, kw⟩ bs vs Q (E σ) hr hg I.env0 hb r h) fun z s' hq => ?_)
  match z, hq with
  | .error e, hq => exact hx pins H s e s' I hq
  | .ok (.ret u), hq => exact I.after hq
  | .ok .next, hq => exact hq.elim
  | .ok .brk, hq => exact hq.elim
  | .ok .cont, hq => exact hq.elim
theorem pe_callPSD {e : Expr} {es : List Expr} {t : TA} (F : FnP X.prog X.w X.K X.mg X.base CX k f fd ps sp) (hr : Room k X.A) (hgu : X.A.guards = some []) (hg : Gl X x) (hm : X.mg x = some (.ref f)) (hk : PySem.W.keepIn X.K (.ref f) = true)
    (hb : Binds X.K fd ps ds) (hd : Vals dvs ds) (hx : ∀ σ, PassesAt CX X σ (E σ)) (ha : PA X (e :: es) t) (hdb : (x == ("__debug__" : Str)) = false)
    (he : starEach (e :: es) X.env = (false, eval e X.env) :: starEach es X.env) (hpl : (backTo pos (starEach es X.env)).any (·.1) = false) :
    PE X (.Call (.Name x p) (e :: es) [] pos) (fun σ H Q => t σ H fun vs H1 => sp (vs ++ dvs) H1 Q (E σ)) :=
  ⟨fun pins s σ H Q I h => wpAny_Call_Name_kw (ld_glob I hg hm (PySem.W.callWith_K (h₀ := X.base) I.ok.mod.kin hk
    (thn (ha.run pos pins s σ H _ I h) fun us s1 ⟨vs, H1, I1, r, q⟩ => ⟨I1.kIn, runAt F hr hgu (hb s1 us I1.kIn (by rw [← (r.append hd).length]; exact F.len _ _ _ _ q)) (hx σ) I1 (r.append hd) q⟩) he hpl) hdb)⟩
theorem pe_callPSK {e : Expr} {es : List Expr} {kws : List Keyword} {t tk : TA} (F : FnP X.prog X.w X.K X.mg X.base CX k f fd ps sp) (hr : Room k X.A) (hgu : X.A.guards = some []) (hg : Gl X x) (hm : X.mg x = some (.ref f)) (hk : PySem.W.keepIn X.K (.ref f) = true)
    (hb : KBn X.K fd ps n ks (fun us ws => us ++ ws) (fun vs zs => vs ++ zs)) (hx : ∀ σ, PassesAt CX X σ (E σ)) (ha : PA X (e :: es) t) (hkw : PK X kws tk)
    (hall : (backToKw pos (keywordEach kws X.env)).all (·.1.isSome) = true) (hks : (backToKw pos (keywordEach kws X.env)).filterMap (·.1) = ks) (hdb : (x == ("__debug__" : Str)) = false)
    (he : starEach (e :: es) X.env = (false, eval e X.env) :: starEach es X.env) (hpl : ((backTo pos (starEach (e :: es) X.env)).any (·.1) || (backToKw pos (keywordEach kws X.env)).any (·.1.isNone)) = false) :
    PE X (.Call (.Name x p) (e :: es) kws pos) (fun σ H Q => t σ H fun vs H1 => tk σ H1 fun zs H2 => vs.length = n ∧ zs.length = ks.length ∧ sp (vs ++ zs) H2 Q (E σ)) := by
  refine ⟨fun pins s σ H Q I h => ?_⟩
  refine wpAny_Call_Name_kw (ld_glob I hg hm ?_ hdb)
  refine PySem.W.callWith_KW (h₀ := X.base) I.ok.mod.kin hk hall (thn (ha.run pos pins s σ H _ I h) fun us s1 ⟨vs, H1, I1, r, q⟩ => ?_) hpl he
  refine thn (hkw.run pos pins s1 σ H1 _ I1 q) fun ws s2 ⟨zs, H2, I2, rz, l1, l2, q2⟩ => ⟨I2.kIn, ?_⟩
  rw [hks]
  exact runAt F hr hgu (hb.to s2 us ws I2.kIn (r.length.symm.trans l1) (rz.length.symm.trans l2)) (hx σ) I2 (hb.rel r rz) q2
end
/-- a def of the text by its body -/
theorem fnP_of {CX : CXT} {P : Program} {w : World} {K : PySem.W.Frag} {mg : Str → Option Value} {base : Heap} {k : Nat} {x qual : Str} {params : Arguments} {body : List Stmt} {scope : Scope} {dvs : List V} {kws : List (Str × V)} {f : Addr} {fd : FuncData}
    {N ps : List Str} {sp : Sp} (F : FunD K x qual params body scope dvs kws f fd) (S : FnScope N ps scope) (len : ∀ vs H Q E, sp vs H Q E → vs.length = ps.length)
    (hbody : ∀ (cdv : Value) (A : Around) (outer : List Env) (s : Shared) (H : Hp) (vs : List V) (Q : VK) (E : XK), fd.code = cdv → Room k (A.deeper (envOfC qual scope s.heap.objs.size f cdv)) → A.guards = some [] → sp vs H Q E →
      ∃ t, PSs (cxOf CX P w K mg base N qual scope f cdv A outer s H E) body t ∧ t { nx := fun _ H' => Q .non H', rt := Q } (start N vs) H) : FnP P w K mg base CX (k + 1) f fd ps sp := by
  obtain ⟨oc, od, dV, kV, doc, pm, an, cdv, ct, osl, rfl, lk, hcd, _, _⟩ := F.ex
  refine ⟨len, fun A outer s H args us vs Q E hr hg e0 hb r hsp => ?_⟩
  have hl := len _ _ _ _ hsp
  have kin : K.In s.heap := e0.mod.kin.keeps fun b o e => (e0.bs b o e).1
  have lim : s.heap.NoLimit := e0.mod.nolimit.keeps fun b o e => (e0.bs b o e).1
  refine codeAny_call_function hr.depth (kin _ _ lk) rfl S.co S.gen rfl (PySem.W.codeRec_of kin hcd) (hb _ _ _ _ ?_)
  have kinds : ∀ y ∈ ps.zip us, scope.names.lookup y.1 = some .local ∨ (scope.names.lookup y.1 = some .cell ∧ ((cellsFrom (s.heap.objs.size + 1) scope.names []).lookup y.1).isSome = true) := by
    rintro ⟨n, v⟩ hy
    rcases S.par n (List.of_mem_zip hy).1 with q | q
    · exact .inl q
    · exact .inr ⟨q, PySem.W.cellsFrom_some _ _ _ (.inl q)⟩
  refine wpAny_newFunctionEnv_cells S.kind kinds fun env he s1 z => ?_
  subst he
  refine ⟨lim.keeps z.toInCall.keep, codeAny_func ?_⟩
  obtain ⟨t, ht, hq⟩ := hbody cdv A outer s H vs Q E rfl (hr.deeper _) hg hsp
  have I := inv_start (CX := CX) (E := E) S hr.hd e0 hl r z
  refine wpAny_mono (ht.run [] s1 _ H _ I hq) (fun fl s' hs => ?_) fun _ _ hs => hs
  match fl, hs with
  | .ret u, ⟨v, σ', H', J, rv, q⟩ => exact ⟨v, H', J.os, J.bare, J.base, J.hok, rv, q⟩
  | .next, ⟨σ', H', J, q⟩ => exact ⟨V.non, H', J.os, J.bare, J.base, J.hok, rfl, q⟩
  | .brk, ⟨_, _, _, q⟩ => exact q.elim
  | .cont, ⟨_, _, _, q⟩ => exact q.elim

/-! ### the end of a call -/
section
variable {K : PySem.W.Frag} {H : Hp} {ρ τ : List Addr}
theorem rd_fewer {a : Addr} (n : a ∉ ρ ++ τ) : a ∉ ρ := fun h => n (List.mem_append_left _ h)
mutual
theorem DR.fewer : ∀ {d : PyData} {v : V}, DR K H (ρ ++ τ) d v → DR K H ρ d v
  | _, _, .non => .non
  | _, _, .bl b => .bl b
  | _, _, .int i => .int i
  | _, _, .str x => .str x
  | _, _, .lst h hs => .lst (h.imp (fun ⟨r, n⟩ => ⟨r, rd_fewer n⟩) id) (DRs.fewer hs)
  | _, _, .tup h hs => .tup (h.imp (fun ⟨r, n⟩ => ⟨r, rd_fewer n⟩) id) (DRs.fewer hs)
  | _, _, .dct h n hs => .dct h (rd_fewer n) (DKs.fewer hs)
theorem DRs.fewer : ∀ {ds : List PyData} {vs : List V}, DRs K H (ρ ++ τ) ds vs → DRs K H ρ ds vs
  | _, _, .nil => .nil
  | _, _, .cons h t => .cons (DR.fewer h) (DRs.fewer t)
theorem DKs.fewer : ∀ {ps : List (PyData × PyData)} {ks : List (Key × V)}, DKs K H (ρ ++ τ) ps ks → DKs K H ρ ps ks
  | _, _, .nil => .nil
  | _, _, .cons h t => .cons (DR.fewer h) (DKs.fewer t)
end
theorem MR.fewer {m : Mem} (M : MR K H (ρ ++ τ) m) (hl : ρ.length ≤ m.length) : MR K H ρ (m.take ρ.length) := by
  refine ⟨by rw [List.length_take]; omega, (List.nodup_append.mp M.nd).1, fun l o a h1 h2 => ?_⟩
  have lt : l < ρ.length := (List.getElem?_eq_some_iff.mp h2).1
  rw [List.getElem?_take_of_lt lt] at h1
  have q := M.ob l o a h1 (by rw [List.getElem?_append_left lt]; exact h2)
  cases o with
  | lst xs => obtain ⟨vs, q1, q2⟩ := q; exact ⟨vs, q1, q2.fewer⟩
  | dct ps => obtain ⟨vs, q1, q2⟩ := q; exact ⟨vs, q1, q2.fewer⟩
  | ins c fs => exact q.elim
  | tab t =>
    obtain ⟨h0, ps, h1, h2, h3⟩ := q
    exact ⟨h0, ps, h1, h2, fun pos cv hc => by
      obtain ⟨c, e1, e2, e3⟩ := h3 pos cv hc
      exact ⟨c, e1, e2, rd_fewer e3⟩⟩
theorem close_run {E : EK} {H1 : Hp} {ρ1 : List Addr} {m1 : Mem} {keep : Bool} {v : Vl} {Q : VK} {n : Nat} (hn : n = ρ.length) (e : Ext H ρ H1 ρ1) (M : MR K H1 ρ1 m1)
    (p : Post K E H ρ (closeC keep n v m1) fun u _ H' ρ' => ∀ x, VR K H' ρ' u x → Q x H') : ∀ x, VR K H1 ρ1 v x → Q x H1 := by
  intro x hx
  cases keep with
  | true => exact p H1 ρ1 e M x hx
  | false =>
    simp only [closeC] at p
    by_cases hb : (decide (n ≤ m1.length) && (m1.take n).all (obOk n)) = true
    · rw [if_pos hb] at p
      rw [Bool.and_eq_true, decide_eq_true_eq] at hb
      obtain ⟨t, rfl⟩ := e.pre
      have e' : Ext H ρ H1 ρ := ⟨⟨[], by simp⟩, fun a o q nq nt => ⟨(e.keep a o q nq nt).1, nq⟩⟩
      cases hu : closeV n m1 v with
      | none =>
        rw [hu] at p
        exact False.elim p
      | some u =>
        rw [hu] at p
        subst hn
        refine p H1 ρ e' (M.fewer hb.1) x ?_
        cases v with
        | d z => cases hu; exact DR.fewer hx
        | loc l =>
          simp only [closeV] at hu
          obtain ⟨a, rfl, ha⟩ := hx
          by_cases hl : l < ρ.length
          · rw [if_pos hl] at hu
            cases hu
            exact ⟨a, rfl, by rw [List.getElem?_append_left hl] at ha; exact ha⟩
          · rw [if_neg hl, Option.map_eq_some_iff] at hu
            obtain ⟨z, hz, rfl⟩ := hu
            have na : a ∉ ρ := fun hm => by
              rw [List.getElem?_append_right (Nat.le_of_not_lt hl)] at ha
              exact (List.nodup_append.mp M.nd).2.2 a hm a (List.mem_of_getElem? ha) rfl
            unfold rd at hz
            cases q : m1[l]? with
            | none => simp only [q] at hz; cases hz
            | some o =>
              have r := M.ob l o a q ha
              simp only [q] at hz
              cases o with
              | lst xs => cases hz; obtain ⟨vs, r1, r2⟩ := r; exact .lst (.inl ⟨.inl r1, na⟩) r2.fewer
              | dct ps => cases hz; obtain ⟨vs, r1, r2⟩ := r; exact .dct (.inl r1) na r2.fewer
              | ins c fs => cases hz
              | tab t => cases hz
    · rw [if_neg hb] at p
      exact False.elim p
end
end Ev

set_option maxHeartbeats 4000000
/-! Ev: own exceptions whose __init__ calls the built-in base's and stores one field. -/
namespace Ev
open PySem PySem.Spec PyProof.Rows L2
set_option autoImplicit false

structure BaseF (B newId initId : String) (bmB : List Value) : Prop where
  fb : ExcBaseFacts B newId initId bmB
  sf : StoreFacts B bmB "object.__setattr__" "object"
  bt : bootBuiltins (Str.ofString B) = some (.type B)
  ty : typeOf (.type B) = pure (.type "type")
  n1 : (Str.ofString B == ("__debug__" : Str)) = false
  n2 : Str.ofString B ≠ "__name__"
  st : Manifest.isStub B = false
  hi : PySem.W.handedIn (.builtin initId) = true
  ev : ∀ (p1 p2 p3 p4 pos : Pos) (z txt : Str) (kk : Nat) (env : PySem.Env), (p2.endLine == pos.line) = true → ∃ pl : Sem Bool, eval (.Call (.Attribute (.Name (Str.ofString B) p1) "__init__" p2) [.Name z p3, .Constant (.str txt) kk p4] [] pos) env = (do
      let ov ← eval (.Name (Str.ofString B) p1) env
      standAt p2.atName
      let (fn, first) ← holding [ov] (getMethod ov "__init__" pl)
      callWith pos fn first (backTo pos (starEach [.Name z p3, .Constant (.str txt) kk p4] env)) (backToKw pos (keywordEach [] env)))
/-- what the text says of a class x with a field f over B -/
structure XCls (K : PySem.W.Frag) (C fI : Addr) (f : Str) (B newId initId : String) (bmB : List Value) : Prop where
  ini : PySem.W.findCls K (.type B) (.type "type") "__init__" = some (.val (.builtin initId))
  q : PySem.W.excInitIn K C bmB newId = true
  ov : PySem.W.excOver K C bmB = true
  sa : PySem.W.findIn K (.ref C) "__setattr__" = some (some (.builtin "object.__setattr__"))
  tk : PySem.W.takerIn K C f = some none
  no : PySem.W.findIn K (.ref C) f = some none
  exC : PySem.W.subIn K (.ref C) (.type "BaseException") = some true
  tyC : PySem.W.typeIn K (.ref C) = some (.type "type")
  kC : PySem.W.keepIn K (.ref C) = true
  iC : PySem.W.findIn K (.ref C) "__init__" = some (some (.ref fI))
  tI : PySem.W.typeIn K (.ref fI) = some (.type "function")
  xf : XfC K C
end Ev

namespace PySem
namespace EVX
open PySem.W PySem.Calls PyProof.Rows PySem.HandSPX
section
open Builtin Builtin.ObjectAttr
variable {prog : Program} {w : World} {A : Around} {R : Result → Shared → Prop} {hp : Heap} {g : Array GenState} {d : Drawn} {t : Nat} {os : OsState}
/-- the first store into an exception of such a class -/
theorem xosa {K : W.Frag} {B : String} {bmB : List Value} {f : Str} {tk : Tok} {v : Value} {x C : Addr} {fv : Array Value} (SF : StoreFacts B bmB "object.__setattr__" "object") (X : K.In hp) (hx : hp.get? x = some { cls := .ref C, data := .fields fv })
    (ov : W.excOver K C bmB = true) (ht : W.takerIn K C f = some none) (hh : W.hasDictIn K C = true)
    (hq : ∀ h2 tk2 dx, (∀ b o, b ≠ x → hp.get? b = some o → h2.get? b = some o) → hp.objs.size ≤ dx → dx ≠ x → h2.get? x = some { cls := .ref C, dict := some dx, data := .fields fv } →
      h2.Ns1 dx (fun y => if y = f then some v else none) → R (.ok (.ret .none)) ⟨h2, g, d, tk2, os⟩) :
    codeAny (model prog w) A (.call (.builtin "object.__setattr__") ⟨[.ref x, .str f tk, v], []⟩) R ⟨hp, g, d, t, os⟩ := by
  have I : W.InstAt hp x { cls := .ref C, data := .fields fv } C none := ⟨hx, rfl, rfl, trivial⟩
  have lt : x ≠ hp.objs.size := Nat.ne_of_lt (Heap.lt_size hx)
  obtain ⟨cd, hcd, hd⟩ := W.any_some hh
  have L : W.Looks (model prog w) hp (classData C) cd := W.looks_clsIn X hcd
  refine W.osa_openX (s := ⟨hp, g, d, t, os⟩) SF X I ov ht fun b => ?_
  obtain ⟨c1, c2, c3, c4, c5, hasD, c6, c7, c8, c9, c10⟩ := cd
  dsimp only at hd
  subst hd
  show wpAny _ _ (storeInOwnDict (.ref x) (.ref C) (.str f tk) f v b) _ _ _
  unfold storeInOwnDict ownDictForStores
  repeat (first | with_reducible refine store_in_new ?_ ?_ | with_reducible refine wpAny_loadPart_at hx ?_ | with_reducible refine L.at ?_ | wp_step)
  · exact ⟨_, #[], _, (Heap.get?_update_ne _ _ _ _ lt.symm).trans (Heap.get?_push_at rfl rfl), rfl, fun e he => absurd he (by simp), fun _ => rfl⟩
  · intro h2 tk2 hn hs
    refine hq h2 tk2 hp.objs.size (fun b o hb ho => ?_) (Nat.le_refl _) lt.symm ?_ hn
    · exact (hs.2 b (Nat.ne_of_lt (Heap.lt_size ho))).trans ((Heap.get?_update_ne _ _ _ _ hb).trans (Heap.get?_push_of_some _ ho))
    · exact (hs.2 x lt).trans (Heap.get?_update_self _ (Heap.get?_push_of_some _ hx) rfl)
end
end EVX
end PySem

namespace Ev
open PySem PySem.Spec PyProof.Rows L2
set_option autoImplicit false
section
variable {X : Cx} {C fI : Addr} {f : Str} {B newId initId : String} {bmB : List Value}
/-- B.__init__(self, ..) -/
def tBI (C : Addr) (ta : TA) : TE := fun σ H Q => ta σ H fun vs H1 => ∃ (a : Addr) (ws : List V), vs = .ref a :: ws ∧ ws.length ≤ 1000 ∧ H1 a = some (exo a C none) ∧ Q .non H1
theorem binit_ok {pins : List (Addr × Obj)} {σ : St} {H : Hp} {s : Shared} {a : Addr} {us : List Value} {Q : Value → Shared → Prop} {E : Value → Shared → Prop} {A : Around} (F : BaseF B newId initId bmB) (T : XCls X.K C fI f B newId initId bmB) (I : Inv X pins σ H s) (e : H a = some (exo a C none))
    (hl : us.length ≤ sizeLine) (h : ∀ s2, Inv X pins σ H s2 → Q .none s2) : wpAny (model X.prog X.w) A (call (.builtin initId) (.ref a :: us)) Q E s := by
  obtain ⟨t1, ho⟩ := exo_at I.hok e
  obtain ⟨nm, N, qn, bs, bm, hdct, sn, sub, ab, col, dd, k0, k1, k2, k3, k5, hC, hT⟩ := PySem.W.excInit_of I.kIn T.q
  obtain ⟨hp, g, d, t, os⟩ := s
  refine wpAny_call (PySem.HandSPX.init_base F.fb hT hC ho hl fun h2 t2 k hx => ?_)
  have J := I.write (t' := t) (x := a) (e := a) (o := exo a C none) (by rw [e]; exact True.intro) (.inl rfl) k ⟨_, hx⟩ (exo_ok hx)
  have eu : upd H a (exo a C none) = H := funext fun b => by
    by_cases hb : b = a
    · rw [hb, upd_same, e]
    · exact upd_ne hb
  rw [eu] at J
  exact h _ J
theorem pe_binit {e : Expr} {es : List Expr} {ta : TA} {p1 p2 pos : Pos} (F : BaseF B newId initId bmB) (T : XCls X.K C fI f B newId initId bmB) (hg : Gl X (Str.ofString B)) (hm : X.mg (Str.ofString B) = none) (ha : PA X (e :: es) ta)
    (hc : ∃ pl : Sem Bool, eval (.Call (.Attribute (.Name (Str.ofString B) p1) "__init__" p2) (e :: es) [] pos) X.env = (do
      let ov ← eval (.Name (Str.ofString B) p1) X.env
      standAt p2.atName
      let (fn, first) ← holding [ov] (getMethod ov "__init__" pl)
      callWith pos fn first (backTo pos (starEach (e :: es) X.env)) (backToKw pos (keywordEach [] X.env))))
    (he : starEach (e :: es) X.env = (false, eval e X.env) :: starEach es X.env) (hpl : (backTo pos (starEach es X.env)).any (·.1) = false) :
    PE X (.Call (.Attribute (.Name (Str.ofString B) p1) "__init__" p2) (e :: es) [] pos) (tBI C ta) := by
  refine ⟨fun pins s σ H Q I h => ?_⟩
  obtain ⟨pl, hc⟩ := hc
  refine PySem.W.methodCall_KW (ld_blt I hg hm F.bt ?_ F.n2 F.n1) hc
  obtain ⟨m, fr⟩ := I.fr
  refine PySem.W.method_type fr I.ok.mod.kin F.ty F.st T.ini F.hi ?_
  show wpAny _ _ (callWith pos (Value.builtin initId) [] (backTo pos (starEach (e :: es) X.env)) []) _ _ _
  refine PyProof.Rows.callWith_method1 (thn (ha.run pos pins _ σ H _ (I.tok _) h) fun us s1 ⟨vs, H1, I1, r1, a, ws, ev, hl, ea, q⟩ => ?_) he hpl
  subst ev
  cases r1 with
  | @cons _ u0 _ ur ra rw' =>
    obtain rfl : u0 = Value.ref a := ra
    exact binit_ok F T I1 ea (by rw [← Paired.length rw', sizeLine_eq]; omega) fun s2 J => ⟨.non, H1, J, rfl, q⟩
/-- self.f = e, the only one -/
def tXs (C : Addr) (f : Str) (to te : TE) : TS := fun D σ H => te σ H fun y H1 => to σ H1 fun x H2 => ∃ a : Addr, x = .ref a ∧ H2 a = some (exo a C none) ∧ ∀ dx, H2 dx = none → dx ≠ a → D.nx σ (upd (upd H2 dx (exd dx [(f, y)])) a (exo a C (some dx)))
theorem xst_new {pins : List (Addr × Obj)} {σ : St} {H : Hp} {s : Shared} {a : Addr} {y : V} {u : Value} {Q : Unit → Shared → Prop} {E : Value → Shared → Prop} {A : Around} (F : BaseF B newId initId bmB) (T : XCls X.K C fI f B newId initId bmB) (I : Inv X pins σ H s) (e : H a = some (exo a C none)) (ry : RelV y u)
    (h : ∀ dx s2, H dx = none → dx ≠ a → Inv X pins σ (upd (upd H dx (exd dx [(f, y)])) a (exo a C (some dx))) s2 → Q () s2) : wpAny (model X.prog X.w) A (setAttr (.ref a) f u) Q E s := by
  obtain ⟨t1, ho⟩ := exo_at I.hok e
  obtain ⟨hp, g, d, t, os⟩ := s
  refine PySem.W.set_plain I.kIn (ox := { cls := .ref C, dict := none, data := .fields #[.ref t1, .none, .none, .none, .bool false, .none] }) (od := none) ⟨ho, rfl, rfl, trivial⟩ T.sa ?_
  refine PySem.EVX.xosa F.sf I.kIn ho T.ov T.tk T.xf.hdC (fun h2 tk2 dx k dn dne hx hn => ?_)
  have hnd : H dx = none := I.hok.fresh dn
  have nd : ∀ {b : Addr} {o : Obj}, hp.get? b = some o → b ≠ dx := fun {b o} q => Nat.ne_of_lt (Nat.lt_of_lt_of_le (Heap.lt_size q) dn)
  have na : ∀ {b : Addr}, H b = none → b ≠ a := fun {b} n z => by
    rw [z, e] at n
    cases n
  have two : ∀ {b : Addr} {o u : HO}, H b = some u → exo a C none ≠ u → upd (upd H dx (exd dx [(f, y)])) a (exo a C (some dx)) b = some u := fun {b o u} q n => by
    rw [upd_ne (at_ne e q n), upd_ne (ne_of_none q hnd)]
    exact q
  have Un1 : Un X.fs [] H (upd (upd H dx (exd dx [(f, y)])) a (exo a C (some dx))) hp h2 :=
    ⟨fun b o q n _ _ => k b o (na n) q, fun b o q n _ _ => ⟨o.slots, k b o (na n) q⟩, fun b o q n _ => by rw [upd_ne (na n), upd_ne (nd q)]; exact n, fun b o q _ => by
      by_cases hb : b = a
      · exact ⟨_, by rw [hb]; exact hx⟩
      · exact ⟨o, k b o hb q⟩, fun b xs q => two (o := .lst []) q exo_tup, fun b o v q => two (o := .lst []) q exo_frz, fun b ps q => ⟨#[], by rw [two (o := .lst []) q exo_tbl]; simp⟩⟩
  refine h dx _ hnd dne (I.un (t' := tk2) Un1 fun b o q => ?_)
  by_cases hb : b = a
  · subst hb
    rw [upd_same] at q
    cases q
    exact exo_ok hx
  · rw [upd_ne hb] at q
    by_cases hd : b = dx
    · subst hd
      rw [upd_same] at q
      cases q
      exact exd_ok hn (relO_put (fs := []) ry fun g => True.intro)
    · rw [upd_ne hd] at q
      exact (I.hok b o q).stay (fun c v hc z => k c v (hc.elim (fun w => by rw [w]; exact hb) fun w => at_ne e w exo_own) z) (fun c hc => two (o := .lst []) hc exo_own) (fun c xs hc => two (o := .lst []) hc exo_tup)
theorem ps_xs {o e : Expr} {to te : TE} {p pos : Pos} (F : BaseF B newId initId bmB) (T : XCls X.K C fI f B newId initId bmB) (ho : PE X o to) (he : PE X e te) (hs : swapsWith e (some (.Attribute o f p)) pos.line X.env = pure false) : PS X (.Assign [.Attribute o f p] e pos) (tXs C f to te) := by
  refine ⟨fun pins s σ H D I h => ?_⟩
  refine plainObj_wpAny_Assign_Attribute (thn (he.run pins s σ H _ I h) fun v s1 ⟨y, H1, I1, r1, q1⟩ => thn (ho.run pins s1 σ H1 _ I1 q1) fun u s2 ⟨x, H2, I2, r2, a, ex, ea, q⟩ => ?_) hs
  subst ex
  obtain rfl : u = Value.ref a := r2
  exact xst_new F T I2 ea r1 fun dx s3 n ne J => ⟨σ, _, J, q dx n ne⟩
/-- what its __init__ keeps -/
def spX (C : Addr) (f : Str) : Sp := fun vs H Q _ => ∃ a v, vs = [.ref a, v] ∧ H a = some (exo a C none) ∧ ∀ dx, H dx = none → dx ≠ a → Q .non (upd (upd H dx (exd dx [(f, v)])) a (exo a C (some dx)))
/-- C(e) -/
def tXm (C : Addr) (f : Str) (te : TA) : St → Hp → XK → Prop := fun σ H Q => te σ H fun vs H1 => ∃ v, vs = [v] ∧ ∀ d, H1 d = none → Q (.ref C) (some d) (upd H1 d (.xd [(f, v)]))
theorem pmk_x {CX : CXT} {x : Str} {k : Nat} {fd : FuncData} {ps : List Str} {e : Expr} {ta : TA} {p pos : Pos} (F : BaseF B newId initId bmB) (T : XCls X.K C fI f B newId initId bmB) (F1 : FnP X.prog X.w X.K X.mg X.base CX k fI fd ps (spX C f)) (hr : Room (k + 1) X.A) (hgu : X.A.guards = some [])
    (hb : Binds X.K fd ps []) (hx : Passes CX X (fun _ _ _ => False)) (hg : Gl X x) (hm : X.mg x = some (.ref C)) (ha : PA X [e] ta) (hdb : (x == ("__debug__" : Str)) = false) (he : starEach [e] X.env = [(false, eval e X.env)]) :
    PMk X (.Call (.Name x p) [e] [] pos) (tXm C f ta) := by
  intro pins s σ H Q I h
  refine wpAny_Call_Name_kw (ld_glob I hg hm ?_ hdb)
  refine PySem.W.callWith_K (h₀ := X.base) I.ok.mod.kin T.kC (thn (ha.run pos pins s σ H _ I h) fun us s1 ⟨vs, H1, I1, r1, v, ev, q1⟩ => ⟨I1.kIn, ?_⟩) he rfl
  subst ev
  show wpAny _ _ (call (.ref C) us) _ _ _
  obtain ⟨hp, g, dr, tk, os⟩ := s1
  obtain ⟨nm, N, qn, bs, bm, hdct, sn, sub, ab, col, dd, k0, k1, k2, k3, k5, hC, hT⟩ := PySem.W.excInit_of I1.kIn T.q
  have hsz : hp.objs.size ≤ hp.objs.size + 1 := Nat.le_succ _
  have hn : H1 (hp.objs.size + 1) = none := I1.hok.fresh hsz
  have kk : ∀ b o, hp.get? b = some o → ((hp.push (PySem.W.kdv_tup us)).push (PySem.HandSPX.excO C hp.objs.size)).get? b = some o := fun b o z => Heap.get?_push_of_some _ (Heap.get?_push_of_some _ z)
  have hget : ((hp.push (PySem.W.kdv_tup us)).push (PySem.HandSPX.excO C hp.objs.size)).get? (hp.objs.size + 1) = some (PySem.HandSPX.excO C hp.objs.size) := by heap_get
  have I2 : Inv X pins σ (upd H1 (hp.objs.size + 1) (exo (hp.objs.size + 1) C none)) ⟨(hp.push (PySem.W.kdv_tup us)).push (PySem.HandSPX.excO C hp.objs.size), g, dr, tk, os⟩ :=
    I1.laid (t' := tk) (a := hp.objs.size + 1) (o := exo (hp.objs.size + 1) C none) kk hsz (exo_ok hget)
  have r2 : Vals [V.ref (hp.objs.size + 1), v] (Value.ref (hp.objs.size + 1) :: us) := .cons rfl r1
  have hsp : spX C f [V.ref (hp.objs.size + 1), v] (upd H1 (hp.objs.size + 1) (exo (hp.objs.size + 1) C none))
      (fun w H2 => w = .non ∧ ∃ (d : Addr) (fs : List (Str × V)), H2 (hp.objs.size + 1) = some (exo (hp.objs.size + 1) C (some d)) ∧ H2 d = some (exd d fs) ∧ H1 d = none ∧ Q (.ref C) (some d) (upd (del H2 (hp.objs.size + 1)) d (.xd fs))) (fun _ _ _ => False) := by
    refine ⟨_, v, rfl, upd_same, fun dx n ne => ⟨rfl, dx, [(f, v)], upd_same, by rw [upd_ne ne, upd_same], ?_, ?_⟩⟩
    · rw [upd_ne ne] at n
      exact n
    · have n1 : H1 dx = none := by rw [upd_ne ne] at n; exact n
      have eq : upd (del (upd (upd (upd H1 (hp.objs.size + 1) (exo (hp.objs.size + 1) C none)) dx (exd dx [(f, v)])) (hp.objs.size + 1) (exo (hp.objs.size + 1) C (some dx))) (hp.objs.size + 1)) dx (.xd [(f, v)]) = upd H1 dx (.xd [(f, v)]) := funext fun b => by
        by_cases h1 : b = dx
        · rw [h1, upd_same, upd_same]
        · rw [upd_ne h1, upd_ne h1]
          by_cases h2 : b = hp.objs.size + 1
          · rw [h2, del_same, hn]
          · rw [del_ne h2, upd_ne h2, upd_ne h1, upd_ne h2]
      rw [eq]
      exact q1 dx n1
  have hl : (Value.ref (hp.objs.size + 1) :: us).length = ps.length := r2.length.symm.trans (F1.len _ _ _ _ hsp)
  have hus : us.length ≤ sizeLine := by
    rw [← Paired.length r1, sizeLine_eq]
    show 1 ≤ _
    decide
  have hb2 := hb _ (Value.ref (hp.objs.size + 1) :: us) I2.kIn (by rw [List.append_nil]; exact hl)
  rw [List.append_nil] at hb2
  refine wpAny_call (PySem.HandSPX.call_own F.fb hT hC (PySem.W.looks_findIn I1.kIn T.iC) (fun self => PySem.W.bind_fn I1.kIn self T.tI) hus
    (codeAny_mono (F1.run _ X.stack _ _ ⟨Value.ref (hp.objs.size + 1) :: us, []⟩ (Value.ref (hp.objs.size + 1) :: us) _ _ (fun _ _ _ => False) (hr.make C us []) hgu (I2.env0.make C us []) hb2 r2 hsp) fun r s2 hq => ?_))
  match r, hq with
  | .error er, hq => exact hx pins σ _ _ er s2 I2 hq
  | .ok (.ret u), hq =>
    obtain ⟨w, H2, os2, bare2, un2, hok2, rv, ev, d, fs, ea, ed, hd1, q2⟩ := hq
    subst ev
    obtain ⟨h2, g2, d2, t2, os'⟩ := s2
    exact ⟨rv, mk_end (raises_own T.exC T.tyC) I1 hsz kk un2 hok2 os2 bare2 ea ed hd1 q2⟩
  | .ok .next, hq => exact False.elim hq
  | .ok .brk, hq => exact False.elim hq
  | .ok .cont, hq => exact False.elim hq
/-- the body of such an __init__ -/
def initB (B : String) (f : Str) (N : List Str) (sc : Scope) : List Stmt → Bool
  | [.Expr (.Call (.Attribute (.Name b _) i p2) [.Name y _, .Constant (.str _) _ _] [] p5) _, .Assign [.Attribute (.Name z _) f' _] (.Name w _) _] =>
    decide (b = Str.ofString B) && decide (i = ("__init__" : Str)) && decide (sc.names.lookup b = some .globalImplicit) && decide (f' = f) && decide (N = [y, w]) && decide (z = y) && decide (sc.names.lookup y = some .local) && decide (sc.names.lookup w = some .local) &&
      !(y == ("__debug__" : Str)) && !(y == ("__classdict__" : Str)) && !(w == ("__debug__" : Str)) && !(w == ("__classdict__" : Str)) && (p2.endLine == p5.line)
  | _ => false
end
theorem xinit {CX : CXT} {P : Program} {w : World} {K : PySem.W.Frag} {mg : Str → Option Value} {base : Heap} {C fI : Addr} {f : Str} {B newId initId : String} {bmB : List Value} {x qual : Str} {params : Arguments} {body : List Stmt} {scope : Scope} {fd : FuncData} {N : List Str} {k : Nat}
    (F : BaseF B newId initId bmB) (T : XCls K C fI f B newId initId bmB) (D : FunD K x qual params body scope [] [] fI fd) (S : FnScope N N scope) (nd : N.Nodup) (hb : initB B f N scope body = true) (hm : mg (Str.ofString B) = none) : FnP P w K mg base CX (k + 1) fI fd N (spX C f) := by
  unfold initB at hb
  split at hb
  · rename_i b p1 i p2 y p3 txt kk p4 p5 p6 z p7 f' p8 w' p9 p10
    simp only [Bool.and_eq_true, decide_eq_true_eq, Bool.not_eq_true'] at hb
    obtain ⟨⟨⟨⟨⟨⟨⟨⟨⟨⟨⟨⟨rfl, rfl⟩, h1⟩, rfl⟩, rfl⟩, rfl⟩, h2⟩, h3⟩, h4⟩, h5⟩, h6⟩, h7⟩, h8⟩ := hb
    refine fnP_of D S (fun vs H Q E ⟨a, v, e, _⟩ => by rw [e]; rfl) fun cdv A outer s H vs Q E hcd hr hg ⟨a, v, e, ea, q⟩ => ?_
    subst e
    refine ⟨_, pss_cons (ps_expr (pe_binit F T h1 hm (pa_cons (pe_var (i := 0) rfl (.inl h2) h4 h5) (pa_cons pe_str pa_nil rfl) rfl) (F.ev _ _ _ _ _ _ _ _ _ h8) rfl rfl) rfl) (pss_cons (ps_xs F T (pe_var (i := 0) rfl (.inl h2) h4 h5) (pe_var (i := 1) rfl (.inl h3) h6 h7) rfl) pss_nil), ?_⟩
    refine ⟨.ref a, rfl, a, [.str txt], rfl, by simp, ea, ?_⟩
    exact ⟨v, rfl, .ref a, rfl, a, rfl, ea, fun dx n ne => q dx n ne⟩
  · cases hb
end Ev

namespace Ev
open PySem PySem.Spec PyProof.Rows L2
theorem ev_of {b : Str} {p1 p2 p3 p4 pos : Pos} {z txt : Str} {kk : Nat} {env : PySem.Env} (he : (p2.endLine == pos.line) = true)
    (h1 : eval (.Call (.Attribute (.Name b p1) "__init__" p2) [.Name z p3, .Constant (.str txt) kk p4] [] pos) env = (do
      let ov ← eval (.Name b p1) env
      standAt p2.atName
      methodCall (.Name b p1) "__init__" p2 pos env ov 2 (backTo pos (starEach [.Name z p3, .Constant (.str txt) kk p4] env)) (backToKw pos (keywordEach [] env))))
    (h2 : methodCallForm 2 (backTo pos (starEach [.Name z p3, .Constant (.str txt) kk p4] env)) (backToKw pos (keywordEach [] env)) = true) :
    ∃ pl : Sem Bool, eval (.Call (.Attribute (.Name b p1) "__init__" p2) [.Name z p3, .Constant (.str txt) kk p4] [] pos) env = (do
      let ov ← eval (.Name b p1) env
      standAt p2.atName
      let (fn, first) ← holding [ov] (getMethod ov "__init__" pl)
      callWith pos fn first (backTo pos (starEach [.Name z p3, .Constant (.str txt) kk p4] env)) (backToKw pos (keywordEach [] env))) := by
  refine ⟨(do return (← importBound (.Name b p1) env).getD true : Sem Bool), h1.trans ?_⟩
  unfold methodCall methodCallPos calleeOf
  rw [h2, he]
  rfl
theorem baseAE : BaseF "ArithmeticError" "ArithmeticError.__new__" "ArithmeticError.__init__" [.type "ArithmeticError", .type "Exception", .type "BaseException", .type "object"] :=
  ⟨F.excBase_ArithmeticError, F.store_ArithmeticError, by decide +kernel, by kernel_rfl, by decide +kernel, by decide +kernel, by decide +kernel, by decide +kernel, fun p1 p2 p3 p4 pos z txt kk env he => ev_of he rfl rfl⟩
theorem baseIE : BaseF "IndexError" "IndexError.__new__" "IndexError.__init__" [.type "IndexError", .type "LookupError", .type "Exception", .type "BaseException", .type "object"] :=
  ⟨F.excBase_IndexError, F.store_IndexError, by decide +kernel, by kernel_rfl, by decide +kernel, by decide +kernel, by decide +kernel, by decide +kernel, fun p1 p2 p3 p4 pos z txt kk env he => ev_of he rfl rfl⟩
theorem baseLE : BaseF "LookupError" "LookupError.__new__" "LookupError.__init__" [.type "LookupError", .type "Exception", .type "BaseException", .type "object"] :=
  ⟨F.excBase_LookupError, F.store_LookupError, by decide +kernel, by kernel_rfl, by decide +kernel, by decide +kernel, by decide +kernel, by decide +kernel, fun p1 p2 p3 p4 pos z txt kk env he => ev_of he rfl rfl⟩
theorem baseOE : BaseF "OverflowError" "OverflowError.__new__" "OverflowError.__init__" [.type "OverflowError", .type "ArithmeticError", .type "Exception", .type "BaseException", .type "object"] :=
  ⟨F.excBase_OverflowError, F.store_OverflowError, by decide +kernel, by kernel_rfl, by decide +kernel, by decide +kernel, by decide +kernel, by decide +kernel, fun p1 p2 p3 p4 pos z txt kk env he => ev_of he rfl rfl⟩
end Ev

set_option maxHeartbeats 1000000
/-! Ev: a check of the syntax against the row's own, and what it gives. -/
namespace Ev
open PySem PySem.Spec PyProof.Rows L2
set_option autoImplicit false

/-! ### the check -/
mutual
def eqD : PyData → PyData → Bool
  | .none, b => (match b with | .none => true | _ => false)
  | .bool x, b => (match b with | .bool y => x == y | _ => false)
  | .int x, b => (match b with | .int y => decide (x = y) | _ => false)
  | .str x, b => (match b with | .str y => decide (x = y) | _ => false)
  | .list xs, b => (match b with | .list ys => eqDs xs ys | _ => false)
  | .tuple xs, b => (match b with | .tuple ys => eqDs xs ys | _ => false)
  | .dict xs, b => (match b with | .dict ys => eqDk xs ys | _ => false)
def eqDs : List PyData → List PyData → Bool
  | [], b => (match b with | [] => true | _ => false)
  | x :: xs, b => (match b with | y :: ys => eqD x y && eqDs xs ys | _ => false)
def eqDk : List (PyData × PyData) → List (PyData × PyData) → Bool
  | [], b => (match b with | [] => true | _ => false)
  | (x, u) :: xs, b => (match b with | (y, v) :: ys => eqD x y && eqD u v && eqDk xs ys | _ => false)
end
mutual
theorem eqD_ok : ∀ (a b : PyData), eqD a b = true → a = b
  | .none, b, h => by cases b <;> simp [eqD] at h; rfl
  | .bool x, b, h => by cases b <;> simp [eqD] at h; subst h; rfl
  | .int x, b, h => by cases b <;> simp [eqD] at h; subst h; rfl
  | .str x, b, h => by cases b <;> simp [eqD] at h; subst h; rfl
  | .list xs, b, h => by cases b <;> simp [eqD] at h; rw [eqDs_ok xs _ h]
  | .tuple xs, b, h => by cases b <;> simp [eqD] at h; rw [eqDs_ok xs _ h]
  | .dict xs, b, h => by cases b <;> simp [eqD] at h; rw [eqDk_ok xs _ h]
theorem eqDs_ok : ∀ (a b : List PyData), eqDs a b = true → a = b
  | [], b, h => by cases b <;> simp [eqDs] at h; rfl
  | x :: xs, b, h => by
    cases b with
    | nil => simp [eqDs] at h
    | cons y ys =>
      simp only [eqDs, Bool.and_eq_true] at h
      rw [eqD_ok x y h.1, eqDs_ok xs ys h.2]
theorem eqDk_ok : ∀ (a b : List (PyData × PyData)), eqDk a b = true → a = b
  | [], b, h => by cases b <;> simp [eqDk] at h; rfl
  | (x, u) :: xs, b, h => by
    cases b with
    | nil => simp [eqDk] at h
    | cons y ys =>
      obtain ⟨y, v⟩ := y
      simp only [eqDk, Bool.and_eq_true] at h
      rw [eqD_ok x y h.1.1, eqD_ok u v h.1.2, eqDk_ok xs ys h.2]
end
def nmOk (x : Str) : Bool := !(x == ("__debug__" : Str)) && !(x == ("__classdict__" : Str)) && !(x == ("__name__" : Str))
def visB (sc : Scope) (x : Str) : Bool := match sc.names.lookup x with
  | some .local => true
  | some .cell => true
  | some .free => true
  | _ => false
def locB (sc : Scope) (x : Str) : Bool := match sc.names.lookup x with
  | some .local => true
  | some .cell => true
  | _ => false
def gloB (sc : Scope) (x : Str) : Bool := match sc.names.lookup x with
  | some .globalImplicit => true
  | _ => false
def cOk : PyData → Const → Bool
  | .none, c => (match c with | .none => true | _ => false)
  | .bool x, c => (match c with | .bool y => x == y | _ => false)
  | .int x, c => (match c with | .int y => decide (x = y) | _ => false)
  | .str x, c => (match c with | .str y => decide (x = y) | _ => false)
  | _, _ => false
/-- none of the forms that the layer treats apart -/
def plainX : Expr → Bool
  | .Starred _ _ => false
  | .Slice _ _ _ _ => false
  | .Set _ _ _ => false
  | _ => true
/-- no comprehension -/
def plainC : Expr → Bool
  | .ListComp _ _ _ _ => false
  | .SetComp _ _ _ _ => false
  | .DictComp _ _ _ _ _ => false
  | _ => true
/-- as a test it is its value's truth -/
def plainT : Expr → Bool
  | .UnaryOp .Not _ _ => false
  | .BoolOp _ _ _ => false
  | .IfExp _ _ _ _ => false
  | .Compare _ _ _ _ => false
  | _ => true
def notMark : CmpOp → Bool
  | .In => false
  | .NotIn => false
  | _ => true
structure Tab where
  N : List Str
  fs : List (Str × Nat × List (Str × PyData))
  gks : List (Str × PyData)
  cls : List Str := []
  exm : List (Str × Str × Bool) := []
  tbs : List (Str × List Str) := []
  /-- the classes without an __init__; those with one, and their field -/
  cls0 : List Str := []
  xcl : List (Str × Str) := []
  /-- the tables of functions -/
  tfs : List (Str × List (Str × Nat)) := []
  /-- the defs that get a lambda; the lambda's name -/
  lams : List LamD := []
  lq : Str := ""
def noArgs : Arguments → Bool
  | ⟨[], [], none, [], [], none, []⟩ => true
  | _ => false
/-- the function g: its name, its parameters, its keyword-only ones -/
def fsB (S : Tab) (g : Nat) (x : Str) (n : Nat) (p : List (Str × PyData) → Bool) : Bool := match S.fs[g]? with
  | some (y, m, k) => decide (y = x) && decide (m = n) && p k
  | none => false
theorem fsB_ok {S : Tab} {g : Nat} {x : Str} {n : Nat} {p : List (Str × PyData) → Bool} (h : fsB S g x n p = true) : ∃ k, S.fs[g]? = some (x, n, k) ∧ p k = true := by
  unfold fsB at h
  split at h
  · rename_i y m k q
    simp only [Bool.and_eq_true, decide_eq_true_eq] at h
    obtain ⟨⟨rfl, rfl⟩, h⟩ := h
    exact ⟨k, q, h⟩
  · cases h
def chkKs : List PyData → List (Option Expr) → Bool
  | [], es => (match es with
    | [] => true
    | _ => false)
  | k :: ks, es => (match es with
    | some (.Constant c _ _) :: es => cOk k c && okKey k && chkKs ks es
    | _ => false)
def lenE : CEs → Nat
  | .nil => 0
  | .cons _ r => lenE r + 1
/-- a list comprehension's names -/
def lcP (sc scope : Scope) (x : Str) : Bool := (decide (scope.names.lookup x = some .local) && decide ((relS scope sc).names.lookup x = some .local)) || (decide (scope.names.lookup x = some .cell) && decide ((relS scope sc).names.lookup x = some .cell))
def lcB (S : Tab) (sc scope : Scope) (own : List (Str × Nat)) : Bool := blkC S.N sc scope own
mutual
/-- a for's target -/
def chkTg (N : List Str) (p : Str → Bool) : Tg → Expr → Bool
  | .nm i, e => (match e with
    | .Name x _ => decide (N[i]? = some x) && p x
    | _ => false)
  | .tup ts, e => (match e with
    | .Tuple es _ _ => chkTgs N p ts es
    | _ => false)
def chkTgs (N : List Str) (p : Str → Bool) : Tgs → List Expr → Bool
  | .nil, es => (match es with
    | [] => true
    | _ => false)
  | .cons t r, es => (match es with
    | e :: es => chkTg N p t e && chkTgs N p r es
    | _ => false)
end
def isTupE : Expr → Bool
  | .Tuple _ _ _ => true
  | _ => false
/-- it makes pairs -/
def tupI : CI → Bool
  | .zip _ => true
  | .enum _ => true
  | _ => false
mutual
def chkE (S : Tab) (sc : Scope) : CE → Expr → Bool
  | .var i, e => (match e with
    | .Name x _ => decide (S.N[i]? = some x) && visB sc x && nmOk x
    | _ => false)
  | .cst d, e => (match e with
    | .Constant c _ _ => cOk d c
    | _ => false)
  | .gk x d, e => (match e with
    | .Name y _ => decide (x = y) && gloB sc x && nmOk x && S.gks.any fun p => decide (p.1 = x) && eqD p.2 d
    | _ => false)
  | .bin o a b, e => (match e with
    | .BinOp x o' y _ => decide (o = o') && chkE S sc a x && chkE S sc b y
    | _ => false)
  | .neg a, e => (match e with
    | .UnaryOp .USub x _ => chkE S sc a x
    | _ => false)
  | .not_ a, e => (match e with
    | .UnaryOp .Not x _ => chkE S sc a x
    | _ => false)
  | .and_ es, e => (match e with
    | .BoolOp .And xs _ => chkEs S sc es xs
    | _ => false)
  | .or_ es, e => (match e with
    | .BoolOp .Or xs _ => chkEs S sc es xs
    | _ => false)
  | .cmp o a b, e => (match e with
    | .Compare x [o'] [y] _ => decide (o = o') && (notMark o || plainX y) && chkE S sc a x && chkE S sc b y
    | _ => false)
  | .cmp2 o1 o2 a b c, e => (match e with
    | .Compare x [p1, p2] [y, z] _ => decide (o1 = p1) && decide (o2 = p2) && notMark o1 && notMark o2 && chkE S sc a x && chkE S sc b y && chkE S sc c z
    | _ => false)
  | .ifx c a b, e => (match e with
    | .IfExp t x y _ => chkT S sc c t && chkE S sc a x && chkE S sc b y
    | _ => false)
  | .tup es, e => (match e with
    | .Tuple xs _ _ => chkEs S sc es xs
    | _ => false)
  | .lst _ es, e => (match e with
    | .List xs _ => chkEs S sc es xs
    | _ => false)
  | .dct _ ks vs, e => (match e with
    | .Dict keys values _ => chkKs ks keys && chkEs S sc vs values && decide (ks.length = lenE vs) && decide (ks.length ≤ 15)
    | _ => false)
  | .ix a i, e => (match e with
    | .Subscript x y _ => chkE S sc a x && chkE S sc i y && plainX y
    | _ => false)
  | .sl a lo hi, e => (match e with
    | .Subscript x (.Slice l h none _) _ => chkE S sc a x && chkO S sc lo l && chkO S sc hi h
    | _ => false)
  | .rev a k, e => (match e with
    | .Subscript x (.Slice none none (some st) _) _ => chkE S sc a x && chkE S sc k st
    | _ => false)
  | .lstC a, e => (match e with
    | .Call (.Name y _) [x] [] _ => decide (y = ("list" : Str)) && gloB sc y && chkE S sc a x && plainX x
    | _ => false)
  | .lstR _ a, e => (match e with
    | .Call (.Name y _) [.Call (.Name z _) [x] [] _] [] _ => decide (y = ("list" : Str)) && gloB sc y && decide (z = ("range" : Str)) && gloB sc z && chkE S sc a x && plainX x
    | _ => false)
  | .repO a b, e => (match e with
    | .BinOp x o y _ => decide (o = .Mult) && chkE S sc a x && chkE S sc b y
    | _ => false)
  | .popA o i, e => (match e with
    | .Call (.Attribute (.Name x px) y ap) [e] [] cp => decide (y = ("pop" : Str)) && (ap.endLine == cp.line) && chkE S sc o (.Name x px) && chkE S sc i e && plainX e
    | _ => false)
  | .call g x es, e => (match e with
    | .Call (.Name y _) xs [] _ => decide (x = y) && gloB sc x && nmOk x && fsB S g x (lenE es) (fun k => k.isEmpty) && chkEs S sc es xs
    | _ => false)
  | .callD g x es ds, e => (match e with
    | .Call (.Name y _) (a :: xs) [] _ => decide (x = y) && gloB sc x && nmOk x && fsB S g x (lenE es + ds.length) (fun k => eqDs (k.map (·.2)) ds) && chkEs S sc es (a :: xs)
    | _ => false)
  | .callK g x es ks vs, e => (match e with
    | .Call (.Name y _) (a :: xs) kws _ => decide (x = y) && gloB sc x && nmOk x && fsB S g x (lenE es + ks.length) (fun k => decide (k.map (·.1) = ks)) && decide (kws.map (·.arg) = ks.map some) && decide (lenE vs = ks.length) && decide (ks ≠ []) && chkEs S sc es (a :: xs) && chkEs S sc vs (kws.map (·.value))
    | _ => false)
  | .lam l q b, e => (match e with
    | .Call (.Name y _) [.Lambda params body scope _] [] _ => decide (y = l.x) && gloB sc y && nmOk y && decide (l ∈ S.lams) && decide (q = S.lq) && noArgs params && LamX.lamSB sc scope && chkE { S with lams := [] } scope b body
    | _ => false)
  | .inK neg a x ks, e => (match e with
    | .Compare y [o] [.Name z _] _ => (match neg with | true => decide (o = .NotIn) | false => decide (o = .In)) && decide (z = x) && gloB sc z && nmOk z && decide ((x, ks) ∈ S.tbs) && chkE S sc a y
    | _ => false)
  | .bi b es, e => (match e with
    | .Call (.Name y _) (a :: xs) [] _ => decide (biName b = y) && gloB sc y && chkEs S sc es (a :: xs)
    | _ => false)
  | .isi a t, e => (match e with
    | .Call (.Name y _) [x, .Name z _] [] _ => decide (y = ("isinstance" : Str)) && gloB sc y && decide (z = Str.ofString t) && gloB sc z && tyOk t && chkE S sc a x && plainX x
    | _ => false)
  | .lc _ t xs src c e', e => (match e with
    | .ListComp elt [⟨tg, iter, ifs, 0⟩] scope _ => decide (xs.length = t.slots.length) && lcB S sc scope (xs.zip t.slots) && chkTg S.N (lcP sc scope) t tg && chkI S sc src iter && (isTupE tg || !tupI src) && chkC S (relS scope sc) c ifs && chkE S (relS scope sc) e' elt
    | _ => false)
def chkEs (S : Tab) (sc : Scope) : CEs → List Expr → Bool
  | .nil, es => (match es with
    | [] => true
    | _ => false)
  | .cons c r, es => (match es with
    | e :: es => chkE S sc c e && plainX e && chkEs S sc r es
    | _ => false)
def chkO (S : Tab) (sc : Scope) : CO → Option Expr → Bool
  | .no, o => (match o with
    | none => true
    | _ => false)
  | .so c, o => (match o with
    | some e => chkE S sc c e
    | _ => false)
def chkT (S : Tab) (sc : Scope) : CT → Expr → Bool
  | .v c, e => chkE S sc c e && (plainT e || (match c with
    | .cmp _ _ _ => true
    | .cmp2 _ _ _ _ _ => true
    | .inK _ _ _ _ => true
    | _ => false))
  | .and_ ts, e => (match e with
    | .BoolOp .And xs _ => chkTs S sc ts xs
    | _ => false)
  | .or_ ts, e => (match e with
    | .BoolOp .Or xs _ => chkTs S sc ts xs
    | _ => false)
  | .not_ t, e => (match e with
    | .UnaryOp .Not x _ => chkT S sc t x
    | _ => false)
def chkTs (S : Tab) (sc : Scope) : CTs → List Expr → Bool
  | .nil, _ => false
  | .cons t r, es => (match es with
    | [e] => chkT S sc t e && (match r with
      | .nil => true
      | _ => false)
    | e :: f :: es => chkT S sc t e && chkTs S sc r (f :: es)
    | _ => false)
def chkC (S : Tab) (sc : Scope) : CTs → List Expr → Bool
  | .nil, es => (match es with
    | [] => true
    | _ => false)
  | .cons t r, es => (match es with
    | [e] => chkT S sc t e && (match r with
      | .nil => true
      | _ => false)
    | _ => false)
def chkI (S : Tab) (sc : Scope) : CI → Expr → Bool
  | .e c, e => chkE S sc c e && plainX e
  | .rng1 c, e => (match e with
    | .Call (.Name y _) [x] [] _ => decide (y = ("range" : Str)) && gloB sc y && chkE S sc c x && plainX x
    | _ => false)
  | .rng2 a b, e => (match e with
    | .Call (.Name y _) [x, z] [] _ => decide (y = ("range" : Str)) && gloB sc y && chkE S sc a x && plainX x && chkE S sc b z && plainX z
    | _ => false)
  | .zip es, e => (match e with
    | .Call (.Name y _) (x :: xs) [] _ => decide (y = ("zip" : Str)) && gloB sc y && decide (2 ≤ lenE es) && decide (lenE es ≤ 4) && chkEs S sc es (x :: xs)
    | _ => false)
  | .enum c, e => (match e with
    | .Call (.Name y _) [x] [] _ => decide (y = ("enumerate" : Str)) && gloB sc y && chkE S sc c x && plainX x
    | _ => false)
end
/-- a comprehension that is stored at once where it is made -/
def swB (sc scope : Scope) (t : Str) (tl vl : Nat) : Bool :=
  decide (sc.names.lookup t = some .local) && tl == vl && !(scope.names.any fun (n, k) => n == t && (k == .local || k == .cell))
/-- its slots stand as they stood where it lets something out -/
def flatB : CS → Bool
  | .set _ _ => true
  | .ret _ => true
  | .expr _ => true
  | _ => false
/-- every class that may fly is told of -/
def accB (S : Tab) (c : Str) (acc : List Str) : Bool := S.cls.all fun x => S.exm.contains (x, c, acc.contains x)
/-- .. whether of any of these -/
def accN (S : Tab) (cs acc : List Str) : Bool := S.cls.all fun x => cs.all (fun c => S.exm.contains (x, c, true) || S.exm.contains (x, c, false)) && (acc.contains x == cs.any fun c => S.exm.contains (x, c, true)) && cs.all fun c => !(S.exm.contains (x, c, true) && S.exm.contains (x, c, false))
def namesOf : List Expr → Option (List Str)
  | [] => some []
  | .Name w _ :: r => (namesOf r).map (w :: ·)
  | _ :: _ => none
def chkHT (S : Tab) (sc : Scope) (n : Str) : CHT → Expr → Bool
  | .is1 c acc, e => (match e with
    | .Call (.Name y _) [.Name z _, .Name w _] [] _ => decide (y = ("isinstance" : Str)) && gloB sc y && decide (z = n) && decide (w = c) && gloB sc w && accB S c acc
    | _ => false)
  | .isN cs acc, e => (match e with
    | .Call (.Name y _) [.Name z _, .Tuple ws _ _] [] _ => decide (y = ("isinstance" : Str)) && gloB sc y && decide (z = n) && decide (namesOf ws = some cs) && cs.all (fun c => gloB sc c) && decide (cs.length ≤ 20) && accN S cs acc
    | _ => false)
  | .not_ t, e => (match e with
    | .UnaryOp .Not x _ => chkHT S sc n t x
    | _ => false)
  | .and_ a b, e => (match e with
    | .BoolOp .And [x, y] _ => chkHT S sc n a x && chkHT S sc n b y
    | .BoolOp .And (x :: y :: z :: r) p => chkHT S sc n a x && chkHT S sc n b (.BoolOp .And (y :: z :: r) p)
    | _ => false)
def chkHV (S : Tab) (sc : Scope) (n : Str) : CHV → Expr → Bool
  | .str x, e => (match e with
    | .Constant (.str y) _ _ => decide (x = y)
    | _ => false)
  | .int i, e => (match e with
    | .Constant (.int j) _ _ => decide (i = j)
    | _ => false)
  | .fld f, e => (match e with
    | .Attribute (.Name y _) g _ => decide (y = n) && decide (g = f)
    | _ => false)
  | .pair a b, e => (match e with
    | .Tuple [x, y] _ _ => chkHV S sc n a x && chkHV S sc n b y && plainX x && plainX y
    | _ => false)
  | .tst t, e => chkHT S sc n t e
  | .ifx t a b, e => (match e with
    | .IfExp c x y _ => chkHT S sc n t c && chkHV S sc n a x && chkHV S sc n b y
    | _ => false)
def chkHs (S : Tab) (sc : Scope) (n : Str) : List CH → List Stmt → Bool
  | [], ss => (match ss with
    | [] => true
    | _ => false)
  | .ret v :: r, ss => (match ss with
    | .Return (some e) _ :: ss => chkHV S sc n v e && chkHs S sc n r ss
    | _ => false)
  | .set i v :: r, ss => (match ss with
    | .Assign [.Name x _] e _ :: ss => decide (S.N[i]? = some x) && locB sc x && chkHV S sc n v e && plainC e && decide (x ≠ n) && chkHs S sc n r ss
    | _ => false)
  | .ifret t v :: r, ss => (match ss with
    | .If c [.Return (some e) _] [] _ :: ss => chkHT S sc n t c && chkHV S sc n v e && chkHs S sc n r ss
    | _ => false)
/-- the body of a def that gets a lambda -/
def chkLam (S : Tab) (sg : Scope) (l : LamD) (bg : List Stmt) : Bool := match bg with
  | [.Try [.Expr (.Call (.Name a _) [] [] _) _] [.ExceptHandler (some (.Name y _)) (some n) (h0 :: hs) _] [] [] _, .Return (some (.Constant (.str t) _ _)) _] =>
    decide (a = l.a) && decide (y = l.y) && decide (n = l.n) && gloB sg y && nmOk n && nmOk a && visB sg a && decide (l.known = S.cls) && !l.known.isEmpty && accB S y l.acc && decide (sg.names.lookup n = some .local) && chkHs S sg n l.h (h0 :: hs) && decide (t = l.told)
  | _ => false
def chkN (S : Tab) (sc : Scope) : List Nat → List Expr → Bool
  | [], es => (match es with
    | [] => true
    | _ => false)
  | i :: is, es => (match es with
    | .Name x _ :: es => decide (S.N[i]? = some x) && locB sc x && chkN S sc is es
    | _ => false)
/-- names, the last one takes the rest -/
def chkSt (S : Tab) (sc : Scope) : List Nat → Nat → List Expr → Bool
  | [], j, es => (match es with
    | [.Starred (.Name x _) _] => decide (S.N[j]? = some x) && locB sc x
    | _ => false)
  | i :: is, j, es => (match es with
    | .Name x _ :: es => decide (S.N[i]? = some x) && locB sc x && chkSt S sc is j es
    | _ => false)
/-- no pair is built to be taken apart -/
def plainU : Expr → Bool
  | .Call _ _ _ _ => true
  | .Subscript _ _ _ => true
  | .Name _ _ => true
  | _ => false
/-- a pair of which one name at least is shared with a comprehension -/
def cellB (sc : Scope) (es : List Expr) (e : Expr) : Bool := match es, e with
  | [.Name x _, .Name y _], .Tuple [a, b] _ _ => (decide (sc.names.lookup x ≠ some .local) || decide (sc.names.lookup y ≠ some .local) || [a, b].all (foldedForSure 8)) && plainX a && plainX b
  | _, _ => false
def parB (sc : Scope) (x y : Str) (px py : Pos) (a b : Expr) : Bool :=
  decide (sc.kind = .function) && decide (sc.names.lookup x = some .local) && decide (sc.names.lookup y = some .local) && py.line == px.line && !(x == y) && plainX a && plainX b && !([a, b].all (foldedForSure 8)) && !([a, b].all (constantsAlone 8))
/-- the function g takes n arguments -/
def tfB (S : Tab) (g n : Nat) : Bool := match S.fs[g]? with
  | some (_, m, []) => decide (m = n)
  | _ => false
mutual
def chkS (S : Tab) (sc : Scope) : CS → Stmt → Bool
  | .set i c, s => (match s with
    | .Assign [.Name x _] e _ => decide (S.N[i]? = some x) && locB sc x && chkE S sc c e
    | _ => false)
  | .setix o i c, s => (match s with
    | .Assign [.Subscript x y _] e _ => chkE S sc o x && chkE S sc i y && plainX y && chkE S sc c e && plainC e
    | _ => false)
  | .ret c, s => (match s with
    | .Return (some e) _ => chkE S sc c e
    | _ => false)
  | .expr c, s => (match s with
    | .Expr e _ => chkE S sc c e && plainC e
    | _ => false)
  | .iff c t f, s => (match s with
    | .If e xs ys _ => chkT S sc c e && chkSs S sc t xs && chkSs S sc f ys
    | _ => false)
  | .for_ t src b, s => (match s with
    | .For tg iter body [] _ => chkTg S.N (locB sc) t tg && chkI S sc src iter && (isTupE tg || !tupI src) && chkSs S sc b body
    | _ => false)
  | .while_ n c b, s => (match s with
    | .While e body [] _ => chkT S sc c e && chkSs S sc b body
    | _ => false)
  | .aug i neg c, s => (match s with
    | .AugAssign (.Name x _) o e _ => decide (S.N[i]? = some x) && locB sc x && (match neg with | true => decide (o = .Sub) | false => decide (o = .Add)) && chkE S sc c e
    | _ => false)
  | .pass, s => (match s with
    | .Pass _ => true
    | _ => false)
  | .raise_ x m, s => (match s with
    | .Raise (some (.Call (.Name y _) [.Constant (.str m') _ _] [] _)) none _ => decide (y = x) && decide (m' = m) && gloB sc y && S.cls0.contains y
    | _ => false)
  | .raiseF x f c, s => (match s with
    | .Raise (some (.Call (.Name y _) [e] [] _)) none _ => decide (y = x) && gloB sc y && S.xcl.contains (y, f) && chkE S sc c e && plainX e
    | _ => false)
  | .setSt is j c, s => (match s with
    | .Assign [.Tuple es _ _] e _ => chkSt S sc is j es && chkE S sc c e && plainU e
    | _ => false)
  | .setP i j a b, s => (match s with
    | .Assign [.Tuple [.Name x px, .Name y py] _ _] (.Tuple [a', b'] _ _) _ => decide (S.N[i]? = some x) && decide (S.N[j]? = some y) && parB sc x y px py a' b' && chkE S sc a a' && chkE S sc b b'
    | _ => false)
  | .app o c, s => (match s with
    | .Expr (.Call (.Attribute (.Name x px) y ap) [e] [] cp) _ => decide (y = ("append" : Str)) && (ap.endLine == cp.line) && chkE S sc o (.Name x px) && chkE S sc c e && plainX e
    | _ => false)
  | .setT is c, s => (match s with
    | .Assign [.Tuple es _ _] e _ => chkN S sc is es && chkE S sc c e && (plainU e || !plainC e || cellB sc es e)
    | _ => false)
  | .try_ b c known acc i h, s => (match s with
    | .Try [b'] [.ExceptHandler (some (.Name y _)) (some n) (h0 :: hs) _] [] [] _ => flatB b && chkS S sc b b' && decide (y = c) && gloB sc y && decide (known = S.cls) && !known.isEmpty && nmOk n && accB S c acc && decide (S.N[i]? = some n) && decide (sc.names.lookup n = some .local) && chkHs S sc n h (h0 :: hs)
    | _ => false)
def chkSs (S : Tab) (sc : Scope) : CSs → List Stmt → Bool
  | .nil, ss => (match ss with
    | [] => true
    | _ => false)
  | .cons c r, ss => (match ss with
    | s :: ss => chkS S sc c s && chkSs S sc r ss
    | _ => false)
  | .op i x tb w j es r, ss => (match ss with
    | .Assign [.Name a _] (.Subscript (.Name b _) k _) _ :: .Assign [.Name y _] (.Call (.Name a' _) (z :: zs) [] _) _ :: ss =>
      decide (S.N[i]? = some a) && locB sc a && nmOk a && decide (a' = a) && decide (b = x) && gloB sc x && nmOk x && S.tfs.any (fun p => decide (p = (x, tb))) && tb.all (fun p => tfB S p.2 (lenE es)) && chkE S sc w k && plainX k &&
        decide (S.N[j]? = some y) && locB sc y && chkEs S sc es (z :: zs) && chkSs S sc r ss
    | _ => false)
  | .opA i x tb w o es r, ss => (match ss with
    | .Assign [.Name a _] (.Subscript (.Name b _) k _) _ :: .Expr (.Call (.Attribute (.Name ox px) y ap) [.Call (.Name a' _) (z :: zs) [] _] [] cp) _ :: ss =>
      decide (S.N[i]? = some a) && locB sc a && nmOk a && decide (a' = a) && decide (b = x) && gloB sc x && nmOk x && S.tfs.any (fun p => decide (p = (x, tb))) && tb.all (fun p => tfB S p.2 (lenE es)) && chkE S sc w k && plainX k &&
        decide (y = ("append" : Str)) && (ap.endLine == cp.line) && chkE S sc o (.Name ox px) && chkEs S sc es (z :: zs) && chkSs S sc r ss
    | _ => false)
end
end Ev

set_option maxHeartbeats 1000000
/-! Ev: the check's syntax runs as its denotation says. -/
namespace Ev
open PySem PySem.Spec PyProof.Rows L2
set_option autoImplicit false

section
variable {X : Cx} {e : Expr} {es : List Expr} {st : Stmt} {sts : List Stmt}
theorem PE.imp {t t' : TE} (h : PE X e t) (w : ∀ σ H Q, t' σ H Q → t σ H Q) : PE X e t' := ⟨fun pins s σ H Q I q => h.run pins s σ H Q I (w _ _ _ q)⟩
theorem PT.imp {t t' : TT} (h : PT X e t) (w : ∀ σ H Q, t' σ H Q → t σ H Q) : PT X e t' := ⟨fun pins s σ H Q I q => h.run pins s σ H Q I (w _ _ _ q)⟩
theorem PW.imp {t t' : TT} (h : PW X e t) (w : ∀ σ H Q, t' σ H Q → t σ H Q) : PW X e t' := ⟨fun wh pins s σ H Q I q => h.run wh pins s σ H Q I (w _ _ _ q)⟩
theorem PA.imp {t t' : TA} (h : PA X es t) (w : ∀ σ H Q, t' σ H Q → t σ H Q) : PA X es t' := ⟨fun pos pins s σ H Q I q => h.run pos pins s σ H Q I (w _ _ _ q)⟩
theorem PS.imp {t t' : TS} (h : PS X st t) (w : ∀ D σ H, t' D σ H → t D σ H) : PS X st t' := ⟨fun pins s σ H D I q => h.run pins s σ H D I (w _ _ _ q)⟩
theorem PSs.imp {t t' : TS} (h : PSs X sts t) (w : ∀ D σ H, t' D σ H → t D σ H) : PSs X sts t' := ⟨fun pins s σ H D I q => h.run pins s σ H D I (w _ _ _ q)⟩
theorem PO.imp {o : Option Expr} {t t' : TO} (h : PO X o t) (w : ∀ σ H Q, t' σ H Q → t σ H Q) : PO X o t' := ⟨fun pins s σ H Q I q => h.run pins s σ H Q I (w _ _ _ q)⟩
end
section
variable {α β γ : Type} {K : PySem.W.Frag} {E : EK} {H : Hp} {ρ : List Addr} {σ : St} {env : Sl} {m : Mem}
theorem TD.mono {E : SK} {R : PySem.W.Frag → Hp → List Addr → α → β → Prop} {f : Sl → Mem → Res α} {Q Q' : β → Hp → Prop} (h : TD R K E f σ H Q) (w : ∀ x H', Q x H' → Q' x H') : TD R K E f σ H Q' := by
  obtain ⟨ρ, env, m, er, mr, p⟩ := h
  exact ⟨ρ, env, m, er, mr, p.imp fun a m H' ρ' e M q x r => w x H' (q x r)⟩
theorem run2 {E : SK} {R : PySem.W.Frag → Hp → List Addr → α → β → Prop} {f : Sl → Mem → Res α} {g : α → Mem → Res γ} {k : γ → Mem → Hp → List Addr → Prop} (er : EnvR K H ρ env σ) (mr : MR K H ρ m) (p : Post K (E σ) H ρ ((f env m).bind g) k) :
    TD R K E f σ H fun y H2 => ∃ ρ2 m2 b, Ext H ρ H2 ρ2 ∧ EnvR K H2 ρ2 env σ ∧ MR K H2 ρ2 m2 ∧ R K H2 ρ2 b y ∧ Post K (E σ) H2 ρ2 (g b m2) k :=
  ⟨ρ, env, m, er, mr, p.bind.imp fun b m2 H2 ρ2 e M q y r => ⟨ρ2, m2, b, e, er.ext e, M, r, q⟩⟩
theorem run1 {E : SK} {R : PySem.W.Frag → Hp → List Addr → α → β → Prop} {f : Sl → Mem → Res α} {Q : β → Hp → Prop} (er : EnvR K H ρ env σ) (mr : MR K H ρ m) (p : Post K (E σ) H ρ (f env m) fun a _ H' ρ' => ∀ x, R K H' ρ' a x → Q x H') : TD R K E f σ H Q :=
  ⟨ρ, env, m, er, mr, p⟩
theorem Post.cast {E' : EK} {r : Res α} {k : α → Mem → Hp → List Addr → Prop} (p : Post K E H ρ r k) (w : ∀ e m H' ρ', MR K H' ρ' m → E e m H' ρ' → E' e m H' ρ') : Post K E' H ρ r k := by
  cases r with
  | ok a m => exact p
  | err e m => exact fun H' ρ' e1 M => w e m H' ρ' M (p H' ρ' e1 M)
  | stk => exact p
theorem MR.own (M : MR K H ρ m) : Own H ρ := fun _ h => M.there h
theorem out_of {d : PyData} {Q : VK} (M : MR K H ρ m) (p : Post K E H ρ (.ok (.d d) m) fun v _ H' ρ' => ∀ x, VR K H' ρ' v x → Q x H') : Out K H ρ d Q := fun H' z s r => p H' ρ (sext s) (M.same s) z r
theorem rdd_ok {v : Vl} {f : PyData → Res α} {k : α → Mem → Hp → List Addr → Prop} (p : Post K E H ρ (rdd v m f) k) : ∃ x, rd m v = some x ∧ Post K E H ρ (f x) k := by
  unfold rdd at p
  cases q : rd m v with
  | none => rw [q] at p; exact False.elim p
  | some x => rw [q] at p; exact ⟨x, rfl, p⟩
theorem dat_ok {o : Option PyData} {k : Vl → Mem → Hp → List Addr → Prop} (p : Post K E H ρ (dat o m) k) : ∃ d, o = some d ∧ Post K E H ρ (.ok (.d d) m) k := by
  cases o with
  | none => exact False.elim p
  | some d => exact ⟨d, rfl, p⟩
theorem bol_ok {o : Option Bool} {k : Vl → Mem → Hp → List Addr → Prop} (p : Post K E H ρ (bol o m) k) : ∃ d, o = some d ∧ Post K E H ρ (.ok (.d (.bool d)) m) k := by
  cases o with
  | none => exact False.elim p
  | some d => exact ⟨d, rfl, p⟩
theorem ok_now {a : α} {k : α → Mem → Hp → List Addr → Prop} (M : MR K H ρ m) (p : Post K E H ρ (.ok a m) k) : k a m H ρ := p H ρ (.refl H ρ) M
/-- a new list -/
theorem mkL_ok {own : Bool} {ds : List PyData} {vs : List V} {Q : VK} (M : MR K H ρ m) (h : DRs K H ρ ds vs) (p : Post K E H ρ (mkL own ds m) fun v _ H' ρ' => ∀ x, VR K H' ρ' v x → Q x H') : ∀ q, H q = none → Q (.ref q) (upd H q (.lst vs)) := by
  intro q hq
  cases own with
  | false => exact (out_of M p).lst M.own h q hq
  | true =>
    have r : ObR K (upd H q (.lst vs)) (ρ ++ [q]) q (.lst ds) := ⟨vs, upd_same, h.ext ⟨⟨[q], rfl⟩, fun a u z n _ => ⟨same_upd hq a u z, by
      rw [List.mem_append, List.mem_singleton]
      rintro (y | y)
      · exact n y
      · exact ne_of_none z hq y⟩⟩⟩
    obtain ⟨M2, e2⟩ := M.push hq r
    exact p _ _ e2 M2 (.ref q) ⟨q, rfl, by rw [M.len, List.getElem?_append_right (Nat.le_refl _)]; simp⟩
end
theorem dats_ok {K : PySem.W.Frag} {H : Hp} {ρ : List Addr} : ∀ {us : List Vl} {vs : List V} {ds : List PyData}, VRs K H ρ us vs → dats us = some ds → DRs K H ρ ds vs
  | _, _, _, .nil, e => by cases e; exact .nil
  | .d x :: us, _, _, .cons h t, e => by
    unfold dats at e
    cases q : dats us with
    | none => rw [q] at e; cases e
    | some xs => rw [q] at e; cases e; exact .cons h (dats_ok t q)
  | .loc l :: us, _, _, .cons h t, e => by cases e

/-! ### plain forms -/
theorem star_plain {e : Expr} (h : plainX e = true) (es : List Expr) (env : PySem.Env) : starEach (e :: es) env = (false, eval e env) :: starEach es env := by
  cases e <;> first | rfl | cases h
theorem ix_plain {e : Expr} (h : plainX e = true) : PlainIx e := fun o i => by
  cases e <;> first | rfl | cases h
theorem set_plain {e : Expr} (h : plainX e = true) (env : PySem.Env) (x : Value) : foldedSetIterable e env x = pure x := by
  cases e <;> first | rfl | cases h
theorem sw_plain {e : Expr} (h : plainC e = true) (t : Option Expr) (l : Nat) (env : PySem.Env) : swapsWith e t l env = pure false := by
  cases e <;> first | rfl | cases h
theorem truth_plain {e : Expr} (h : plainT e = true) (env : PySem.Env) (whole : Sem Value) : isTrue e env whole = (do let v ← whole; standAt e.pos; holding [v] (truthy v)) := by
  cases e with
  | UnaryOp op x pos => cases op <;> first | rfl | cases h
  | BoolOp _ _ _ => cases h
  | IfExp _ _ _ _ => cases h
  | Compare _ _ _ _ => cases h
  | _ => rfl
theorem any_plain {S : Tab} {sc : Scope} : ∀ (c : CEs) (es : List Expr) (pos : Pos) (env : PySem.Env), chkEs S sc c es = true → (backTo pos (starEach es env)).any (·.1) = false
  | .nil, es, pos, env, h => by
    cases es with
    | nil => rfl
    | cons _ _ => simp [chkEs] at h
  | .cons c r, es, pos, env, h => by
    cases es with
    | nil => simp [chkEs] at h
    | cons e es =>
      simp only [chkEs, Bool.and_eq_true] at h
      rw [star_plain h.1.2]
      have ih := any_plain r es pos env h.2
      first
        | (simpa [backTo] using ih)
        | skip

/-! ### where one stands -/
/-- what a def is worth -/
def spN (K : PySem.W.Frag) (mg : Str → Option Value) (T : List Fd) (d g : Nat) (n : Nat) : Sp := fun vs H Q E => ∃ ρ us m, VRs K H ρ us vs ∧ us.length = n ∧ MR K H ρ m ∧ Post K (fun e _ H' ρ' => ∀ c od, XR K mg ρ' e c od H' → E c od H') H ρ (callN T d g us m) fun v _ H' ρ' => ∀ x, VR K H' ρ' v x → Q x H'
def bnames : List Str := ["isinstance", "len", "abs", "max", "min", "int", "tuple", "list", "all", "any", "repr", "range", "bool", "str", "dict", "divmod", "zip", "enumerate", "sum"]
/-- an exception class of the text without an __init__ of its own -/
def ClsN (K : PySem.W.Frag) (mg : Str → Option Value) (x : Str) : Prop := ∃ (C : Addr) (bmB : List Value) (B newId initId : String), ExcBaseFacts B newId initId bmB ∧ PySem.W.excIn K C bmB newId = true ∧ mg x = some (.ref C) ∧ PySem.W.keepIn K (.ref C) = true ∧
  PySem.W.subIn K (.ref C) (.type "BaseException") = some true ∧ PySem.W.typeIn K (.ref C) = some (.type "type") ∧ (x == ("__debug__" : Str)) = false
/-- .. with one, that keeps a field -/
def ClsX (P : Program) (w : World) (K : PySem.W.Frag) (mg : Str → Option Value) (base : Heap) (x f : Str) : Prop := ∃ (C fI : Addr) (B newId initId : String) (bmB : List Value) (fd : FuncData) (N : List Str), BaseF B newId initId bmB ∧ XCls K C fI f B newId initId bmB ∧ mg x = some (.ref C) ∧
  (x == ("__debug__" : Str)) = false ∧ Binds K fd N [] ∧ FnP P w K mg base (L2.CX P w) 1 fI fd N (spX C f)
/-- any of them -/
def ClsOk (K : PySem.W.Frag) (mg : Str → Option Value) (x : Str) : Prop := ∃ C : Addr, mg x = some (.ref C) ∧ ExcC K C
/-- what a name means: the text's own, else a built-in one -/
def NmC (mg : Str → Option Value) (y : Str) (cv : Value) : Prop := (y == ("__debug__" : Str)) = false ∧ (mg y = some cv ∨ (mg y = none ∧ bootBuiltins y = some cv ∧ y ≠ "__name__")) ∧ ((∃ D, cv = .ref D) ∨ ∃ t, cv = .type t)
theorem NmC.uniq {mg : Str → Option Value} {y : Str} {c d : Value} (h : NmC mg y c) (h' : NmC mg y d) : c = d := by
  obtain ⟨_, h | ⟨h, k, _⟩, _⟩ := h <;> obtain ⟨_, h' | ⟨h', k', _⟩, _⟩ := h' <;> rw [h] at h'
  · cases h'; rfl
  · cases h'
  · cases h'
  · rw [k] at k'; cases k'; rfl
/-- whether the class x is one of y's -/
def EmOk (K : PySem.W.Frag) (mg : Str → Option Value) (x y : Str) (b : Bool) : Prop := ∃ C cv, mg x = some (.ref C) ∧ NmC mg y cv ∧ PySem.W.kitOne K (.ref C) cv = some b ∧ PySem.W.exmOne K (.ref C) cv = some b
/-- how a def binds: kw its keyword-only parameters -/
structure BindAll (K : PySem.W.Frag) (fd : FuncData) (ps : List Str) (n : Nat) (kw : List (Str × PyData)) : Prop where
  pos : ∃ dvs ds, (∀ H ρ, DRs K H ρ (kw.map (·.2)) dvs) ∧ Vals dvs ds ∧ Binds K fd ps ds
  key : kw ≠ [] → ∀ m, m + kw.length = n → KBn K fd ps m (kw.map (·.1)) (fun us ws => us ++ ws) (fun vs zs => vs ++ zs)
theorem BindAll.plain {K : PySem.W.Frag} {fd : FuncData} {ps : List Str} {n : Nat} (h : BindAll K fd ps n []) : Binds K fd ps [] := by
  obtain ⟨dvs, ds, h1, h2, h3⟩ := h.pos
  cases h1 (fun _ => none) []
  cases h2
  exact h3
theorem BindAll.of {K : PySem.W.Frag} {fd : FuncData} {ps : List Str} {n : Nat} (h : Binds K fd ps []) : BindAll K fd ps n [] := ⟨⟨[], [], fun _ _ => .nil, .nil, h⟩, fun z => absurd rfl z⟩
/-- of a def with lambdas -/
structure LamF (X : Cx) (S : Tab) : Prop where
  code : X.env.code = .ref (He.cT X.K ("law", none)).1
  tb : LamX.TabB X.base X.mg (He.cT X.K ("law", none)).1 (He.cT X.K ("law", none)).2
  q : X.env.qual ++ "<lambda>" = S.lq
  of : ∀ l ∈ S.lams, ∃ (g : Addr) (fd : FuncData) (pg : Arguments) (bg : List Stmt) (sg : Scope), X.mg l.x = some (.ref g) ∧ FunD X.K l.x l.x pg bg sg [] [] g fd ∧ Binds X.K fd [l.a] [] ∧ FnScope [l.a, l.n] [l.a] sg ∧ chkLam { S with N := [l.a, l.n], lams := [] } sg l bg = true
structure Fine (T : List Fd) (S : Tab) (d : Nat) (sc : Scope) (X : Cx) (E : SK) : Prop where
  calm : X.calm = true
  nd : S.N.Nodup
  N : X.N = S.N
  sc : X.env.scope = sc
  hg : X.A.guards = some []
  room : Room d X.A
  un : ∀ x ∈ bnames, X.mg x = none
  gk : ∀ x dd, (x, dd) ∈ S.gks → ∃ u v, X.mg x = some u ∧ RelV v u ∧ DR X.K (fun _ => none) [] dd v
  cl : ∀ x ∈ S.cls, ClsOk X.K X.mg x
  em : ∀ x y b, (x, y, b) ∈ S.exm → EmOk X.K X.mg x y b
  fn : ∀ (d' : Nat), d' ≤ d → ∀ (g : Nat) (x : Str) (n : Nat) (kw : List (Str × PyData)), S.fs[g]? = some (x, n, kw) → ∃ a fd ps, X.mg x = some (.ref a) ∧ PySem.W.keepIn X.K (.ref a) = true ∧ BindAll X.K fd ps n kw ∧ FnP X.prog X.w X.K X.mg X.base (L2.CX X.prog X.w) d' a fd ps (spN X.K X.mg T d' g n)
  tk : TakesL X (WK X.K X.mg E)
  sy : SysD X.base
  tb : ∀ x ks, (x, ks) ∈ S.tbs → ∃ d es n, X.mg x = some (.ref d) ∧ KDict X.K X.w d es n ∧ ∀ z, ∃ r, PySem.W.nsIn X.K d z = some r ∧ r.isSome = ks.contains z
  c0 : ∀ x ∈ S.cls0, ClsN X.K X.mg x
  xc : ∀ x f, (x, f) ∈ S.xcl → ClsX X.prog X.w X.K X.mg X.base x f
  tf : ∀ x tb, (x, tb) ∈ S.tfs → ∃ dk es n, X.mg x = some (.ref dk) ∧ KDict X.K X.w dk es n ∧ ∀ z g, tb.lookup z = some g → ∃ y m a, S.fs[g]? = some (y, m, []) ∧ X.mg y = some (.ref a) ∧ PySem.W.nsIn X.K dk z = some (some (.ref a))
  lm : S.lams ≠ [] → LamF X S
  tl : T.length ≤ 900
theorem takes_false {X : Cx} {K : PySem.W.Frag} {mg : Str → Option Value} : Takes X (WK K mg Z0) := fun u s' ⟨_, _, _, _, _, _, _, _, _, _, _, _, _, _, _, _, _, _, _, _, _, w⟩ => w.elim
theorem Fine.blk {T : List Fd} {S : Tab} {d : Nat} {sc : Scope} {X : Cx} {E : SK} (F : Fine T S d sc X E) (s : Shared) (H : Hp) (scope : Scope) (C : Addr) (cl : List (Str × Addr)) (fp : List Addr) :
    ∀ {L : Addr} {E' : SK}, TakesL (blkE X s H scope (compEnvC scope cl C X.env) fp L (WK X.K X.mg E')) (WK X.K X.mg E') → Fine T S d (relS scope sc) (blkE X s H scope (compEnvC scope cl C X.env) fp L (WK X.K X.mg E')) E' := fun tk =>
  ⟨F.calm, F.nd, F.N, by rw [← F.sc]; rfl, F.hg, F.room, F.un, F.gk, F.cl, F.em, F.fn, tk, F.sy, F.tb, F.c0, F.xc, F.tf, fun h => ⟨(F.lm h).code, (F.lm h).tb, (F.lm h).q, (F.lm h).of⟩, F.tl⟩
theorem vis_of {sc : Scope} {x : Str} (h : visB sc x = true) : Vis sc x := by
  unfold visB at h
  split at h
  · exact .inl (by assumption)
  · exact .inr (.inl (by assumption))
  · exact .inr (.inr (by assumption))
  · cases h
theorem loc_of {sc : Scope} {x : Str} (h : locB sc x = true) : Loc sc x := by
  unfold locB at h
  split at h
  · exact .inl (by assumption)
  · exact .inr (by assumption)
  · cases h
theorem glo_of {sc : Scope} {x : Str} (h : gloB sc x = true) : sc.names.lookup x = some .globalImplicit := by
  unfold gloB at h
  split at h
  · assumption
  · cases h
theorem nm_of {x : Str} (h : nmOk x = true) : (x == ("__debug__" : Str)) = false ∧ (x == ("__classdict__" : Str)) = false ∧ x ≠ "__name__" := by
  simp only [nmOk, Bool.and_eq_true, Bool.not_eq_true'] at h
  exact ⟨h.1.1, h.1.2, by simpa using h.2⟩
end Ev

set_option maxHeartbeats 4000000
namespace Ev
open PySem PySem.Spec PyProof.Rows L2
set_option autoImplicit false

/-! ### what is walked -/
def RowR (K : PySem.W.Frag) (H : Hp) (ρ : List Addr) (src : List (Nat × List PyData)) (t : Bool) (a : Addr) (xs : List PyData) : Prop :=
  (t = false ∧ ∃ vs, DRs K H ρ xs vs ∧ ((Rd H a (.lst vs) ∧ a ∉ ρ) ∨ WL K a vs)) ∨ (t = true ∧ ∃ vs, DRs K H ρ xs vs ∧ ((Rd H a (.tup vs) ∧ a ∉ ρ) ∨ WT K a vs)) ∨ (t = false ∧ ∃ l, (l, xs) ∈ src ∧ ρ[l]? = some a)
theorem same_mem {m : Mem} {l : Nat} {xs : List PyData} : ∀ {src : List (Nat × List PyData)}, same m src = true → (l, xs) ∈ src → m[l]? = some (.lst xs)
  | [], _, h => by cases h
  | (k, ys) :: r, e, h => by
    simp only [same, Bool.and_eq_true, decide_eq_true_eq] at e
    rcases List.mem_cons.mp h with h | h
    · cases h; exact e.1
    · exact same_mem e.2 h
theorem RowR.now {K : PySem.W.Frag} {H0 H : Hp} {ρ0 ρ : List Addr} {m : Mem} {src : List (Nat × List PyData)} {t : Bool} {a : Addr} {xs : List PyData} (h : RowR K H0 ρ0 src t a xs) (e : Ext H0 ρ0 H ρ) (M : MR K H ρ m) (sm : same m src = true) : ∃ vs, SqB t K H a vs ∧ DRs K H ρ xs vs := by
  rcases h with ⟨rfl, vs, ds, sq⟩ | ⟨rfl, vs, ds, sq⟩ | ⟨rfl, l, hl, ha⟩
  · exact ⟨vs, Or.elim sq (fun ⟨q, nq⟩ => .inl (e.rd q nq (fun _ z => by cases z)).1) WL.sq, ds.ext e⟩
  · exact ⟨vs, Or.elim sq (fun ⟨q, nq⟩ => .inl (e.rd q nq (fun _ z => by cases z)).1) WT.sq, ds.ext e⟩
  · obtain ⟨τ, rfl⟩ := e.pre
    have ha' : (ρ0 ++ τ)[l]? = some a := by rw [List.getElem?_append_left (List.getElem?_eq_some_iff.mp ha).1]; exact ha
    obtain ⟨vs, h1, h2⟩ := M.ob l _ a (same_mem sm hl) ha'
    exact ⟨vs, .inl (.inl h1), h2⟩
theorem RowR.mono {K : PySem.W.Frag} {H : Hp} {ρ : List Addr} {src src' : List (Nat × List PyData)} {t : Bool} {a : Addr} {xs : List PyData} (h : RowR K H ρ src t a xs) (k : ∀ p ∈ src, p ∈ src') : RowR K H ρ src' t a xs :=
  h.imp id (Or.imp id fun ⟨e, l, q, w⟩ => ⟨e, l, k _ q, w⟩)
theorem RowR.ext {K : PySem.W.Frag} {H H' : Hp} {ρ ρ' : List Addr} {src : List (Nat × List PyData)} {t : Bool} {a : Addr} {xs : List PyData} (e : Ext H ρ H' ρ') (h : RowR K H ρ src t a xs) : RowR K H' ρ' src t a xs := by
  rcases h with ⟨rfl, vs, ds, sq⟩ | ⟨rfl, vs, ds, sq⟩ | ⟨rfl, l, hl, ha⟩
  · exact .inl ⟨rfl, vs, ds.ext e, sq.imp (fun ⟨r, n⟩ => e.rd r n (fun _ z => by cases z)) id⟩
  · exact .inr (.inl ⟨rfl, vs, ds.ext e, sq.imp (fun ⟨r, n⟩ => e.rd r n (fun _ z => by cases z)) id⟩)
  · obtain ⟨τ, rfl⟩ := e.pre
    exact .inr (.inr ⟨rfl, l, hl, by rw [List.getElem?_append_left (List.getElem?_eq_some_iff.mp ha).1]; exact ha⟩)
inductive RowsR (K : PySem.W.Frag) (H : Hp) (ρ : List Addr) (src : List (Nat × List PyData)) : List (Bool × Addr) → List (List PyData) → Prop
  | nil : RowsR K H ρ src [] []
  | cons {t : Bool} {a : Addr} {xs : List PyData} {r : List (Bool × Addr)} {xr : List (List PyData)} : RowR K H ρ src t a xs → RowsR K H ρ src r xr → RowsR K H ρ src ((t, a) :: r) (xs :: xr)
def ItB (K : PySem.W.Frag) (t : Bool) (a : Addr) : It := match t with
  | false => Itl K a
  | true => Itt K a
def ItsR (K : PySem.W.Frag) (H : Hp) (ρ : List Addr) (m : Mem) (its : Its) (J : It) : Prop :=
  (∃ t a, J = ItB K t a ∧ RowR K H ρ its.src t a its.items) ∨
  (∃ (lo : Int) (n : Nat), J = Itr lo n ∧ its.items = (List.range n).map fun (k : Nat) => PyData.int (lo + (k : Int))) ∨
  (∃ rows xss, J = ItzN K rows ∧ rows ≠ [] ∧ rows.length ≤ 4 ∧ RowsR K H ρ its.src rows xss ∧ its.items = zipD xss) ∨
  (∃ t a xs, J = IteN K t a ∧ RowR K H ρ its.src t a xs ∧ its.items = enumD xs)
theorem sqB_get {t : Bool} {K : PySem.W.Frag} {H : Hp} {a : Addr} {vs : List V} : SqB t K H a vs → (∀ (i : Nat) (v : V), vs[i]? = some v → (ItB K t a).go i H ∧ ∀ x H', (ItB K t a).yld i H x H' → H' = H ∧ x = v) ∧ (ItB K t a).stop vs.length H := by
  cases t with
  | false =>
    intro sq
    refine ⟨fun i v hv => ⟨⟨vs, v, sq, hv⟩, fun x H' y => ⟨y.1, ?_⟩⟩, vs, sq, Nat.le_refl _⟩
    have q := y.2 vs sq
    rw [hv] at q
    exact (Option.some.inj q).symm
  | true =>
    intro sq
    refine ⟨fun i v hv => ⟨⟨vs, v, sq, hv⟩, fun x H' y => ⟨y.1, ?_⟩⟩, vs, sq, Nat.le_refl _⟩
    have q := y.2 vs sq
    rw [hv] at q
    exact (Option.some.inj q).symm
theorem minL_le : ∀ {xss : List (List PyData)} {xs : List PyData}, xs ∈ xss → minL xss ≤ xs.length
  | [x], xs, h => by simp at h; subst h; exact Nat.le_refl _
  | x :: y :: r, xs, h => by
    unfold minL
    rcases List.mem_cons.mp h with rfl | h
    · exact Nat.min_le_left ..
    · exact Nat.le_trans (Nat.min_le_right ..) (minL_le h)
theorem minL_at : ∀ {xss : List (List PyData)}, xss ≠ [] → ∃ xs ∈ xss, xs.length = minL xss
  | [x], _ => ⟨x, by simp, rfl⟩
  | x :: y :: r, _ => by
    obtain ⟨z, hz, e⟩ := minL_at (xss := y :: r) (by simp)
    unfold minL
    by_cases h : x.length ≤ minL (y :: r)
    · exact ⟨x, by simp, by omega⟩
    · exact ⟨z, List.mem_cons_of_mem _ hz, by omega⟩
theorem RowsR.len {K : PySem.W.Frag} {H : Hp} {ρ : List Addr} {src : List (Nat × List PyData)} {rows : List (Bool × Addr)} {xss : List (List PyData)} (h : RowsR K H ρ src rows xss) : rows.length = xss.length := by
  induction h with
  | nil => rfl
  | cons _ _ ih => simp [ih]
/-- the rows' values at a turn -/
theorem rows_at {K : PySem.W.Frag} {H0 H : Hp} {ρ0 ρ : List Addr} {m : Mem} {src : List (Nat × List PyData)} (e : Ext H0 ρ0 H ρ) (M : MR K H ρ m) (sm : same m src = true) {rows : List (Bool × Addr)} {xss : List (List PyData)} (h : RowsR K H0 ρ0 src rows xss) :
    (∀ r ∈ rows, ∃ xs vs, xs ∈ xss ∧ SqB r.1 K H r.2 vs ∧ xs.length = vs.length) ∧ (∀ xs ∈ xss, ∃ r ∈ rows, ∃ vs, SqB r.1 K H r.2 vs ∧ xs.length = vs.length) ∧
    ∀ (i : Nat), (∀ xs ∈ xss, i < xs.length) → ∀ us, ZY K H i rows us → DRs K H ρ (xss.map fun xs => xs.getD i .none) us := by
  induction h with
  | nil =>
    refine ⟨fun r hr => (by cases hr), fun r hr => (by cases hr), fun i _ us z => ?_⟩
    cases us with
    | nil => exact .nil
    | cons _ _ => exact z.elim
  | @cons t a xs r xr h1 h2 ih =>
    obtain ⟨i1, i2, i3⟩ := ih
    obtain ⟨vs, sq, ds⟩ := h1.now e M sm
    refine ⟨fun q hq => ?_, fun ys hy => ?_, fun i hi us z => ?_⟩
    · rcases List.mem_cons.mp hq with rfl | hq
      · exact ⟨xs, vs, by simp, sq, ds.length⟩
      · obtain ⟨ys, ws, w1, w2⟩ := i1 q hq
        exact ⟨ys, ws, List.mem_cons_of_mem _ w1, w2⟩
    · rcases List.mem_cons.mp hy with rfl | hy
      · exact ⟨(t, a), by simp, vs, sq, ds.length⟩
      · obtain ⟨q, w1, w2⟩ := i2 ys hy
        exact ⟨q, List.mem_cons_of_mem _ w1, w2⟩
    · cases us with
      | nil => exact z.elim
      | cons u us =>
        rw [List.map_cons]
        refine .cons ?_ (i3 i (fun ys hy => hi ys (List.mem_cons_of_mem _ hy)) us z.2)
        have hlt := hi xs (List.mem_cons_self ..)
        obtain ⟨v, hv, dv⟩ := ds.get (List.getElem?_eq_getElem hlt)
        have q := z.1 vs sq
        rw [hv] at q
        cases q
        rw [List.getD_eq_getElem?_getD, List.getElem?_eq_getElem hlt]
        exact dv
theorem its_step {K : PySem.W.Frag} {H0 H : Hp} {ρ0 ρ : List Addr} {m0 m : Mem} {its : Its} {J : It} (h : ItsR K H0 ρ0 m0 its J) (e : Ext H0 ρ0 H ρ) (M : MR K H ρ m) (sm : same m its.src = true) :
    (∀ (i : Nat) (d : PyData), its.items[i]? = some d → J.go i H ∧ ∀ x H', J.yld i H x H' → L2.Same H H' ∧ DR K H' ρ d x) ∧ J.stop its.items.length H := by
  rcases h with ⟨t, a, rfl, hr⟩ | ⟨lo, n, rfl, hi⟩ | ⟨rows, xss, rfl, hne, h4, hr, hi⟩ | ⟨t, a, xs, rfl, hr, hi⟩
  · obtain ⟨vs, sq, ds⟩ := hr.now e M sm
    obtain ⟨g1, g2⟩ := sqB_get sq
    refine ⟨fun i d hd => ?_, by rw [ds.length]; exact g2⟩
    obtain ⟨v, h1, h2⟩ := ds.get hd
    obtain ⟨k1, k2⟩ := g1 i v h1
    refine ⟨k1, fun x H' y => ?_⟩
    obtain ⟨rfl, rfl⟩ := k2 x H' y
    exact ⟨L2.Same.refl _, h2⟩
  · rw [hi]
    refine ⟨fun i d hd => ?_, by rw [List.length_map, List.length_range]; exact Nat.le_refl _⟩
    rw [List.getElem?_map] at hd
    cases q : (List.range n)[i]? with
    | none => rw [q] at hd; cases hd
    | some j =>
      rw [q] at hd
      cases hd
      have hn : i < n := by have := (List.getElem?_eq_some_iff.mp q).1; simpa using this
      have ej : j = i := by
        rw [List.getElem?_range hn] at q
        exact (Option.some.inj q).symm
      subst ej
      exact ⟨hn, fun x H' y => by
        obtain ⟨y1, y2⟩ := y
        subst y1
        exact ⟨L2.Same.refl _, by rw [y2]; exact .int _⟩⟩
  · obtain ⟨r1, r2, r3⟩ := rows_at e M sm hr
    rw [hi]
    unfold zipD
    refine ⟨fun i d hd => ?_, fun r hr => ?_, ?_⟩
    · rw [List.getElem?_map] at hd
      obtain ⟨j, q, rfl⟩ := Option.map_eq_some_iff.mp hd
      have hn : i < minL xss := by have := (List.getElem?_eq_some_iff.mp q).1; simpa using this
      rw [List.getElem?_range hn] at q
      cases q
      have hlt : ∀ xs ∈ xss, i < xs.length := fun xs hx => Nat.lt_of_lt_of_le hn (minL_le hx)
      refine ⟨fun r hr => ?_, fun x H' y => ?_⟩
      · obtain ⟨xs, vs, hx, sq, hl⟩ := r1 r hr
        exact ⟨vs, vs[i]'(by rw [← hl]; exact hlt xs hx), sq, List.getElem?_eq_getElem _⟩
      · obtain ⟨T, us, rfl, hT, rfl, z⟩ := y
        have sm := same_upd (o := .tup us) hT
        exact ⟨sm, .tup (.inl ⟨.inl upd_same, M.fresh hT⟩) ((r3 i hlt us z).ext (sext sm))⟩
    · obtain ⟨xs, vs, _, sq, _⟩ := r1 r hr
      exact ⟨vs, sq⟩
    · have hx : xss ≠ [] := by
        rintro rfl
        exact hne (List.eq_nil_of_length_eq_zero hr.len)
      obtain ⟨xs, hxs, hl⟩ := minL_at hx
      obtain ⟨r, hr, vs, sq, hv⟩ := r2 xs hxs
      exact ⟨r, hr, vs, sq, by rw [List.length_map, List.length_range]; omega⟩
  · obtain ⟨vs, sq, ds⟩ := hr.now e M sm
    rw [hi]
    unfold enumD
    refine ⟨fun i d hd => ?_, vs, sq, by rw [List.length_map, List.length_range, ds.length]; exact Nat.le_refl _⟩
    rw [List.getElem?_map] at hd
    obtain ⟨j, q, rfl⟩ := Option.map_eq_some_iff.mp hd
    have hn : i < xs.length := by have := (List.getElem?_eq_some_iff.mp q).1; simpa using this
    rw [List.getElem?_range hn] at q
    cases q
    obtain ⟨v, h1, h2⟩ := ds.get (List.getElem?_eq_getElem hn)
    refine ⟨⟨vs, v, sq, h1⟩, fun x H' y => ?_⟩
    obtain ⟨T, u, rfl, hT, rfl, z⟩ := y
    have hu := z vs sq
    rw [h1] at hu
    cases hu
    have sm := same_upd (o := .tup [.int (i : Nat), v]) hT
    refine ⟨sm, .tup (.inl ⟨.inl upd_same, M.fresh hT⟩) (.cons (.int _) (.cons ?_ .nil))⟩
    rw [List.getD_eq_getElem?_getD, List.getElem?_eq_getElem hn]
    exact h2.ext (sext sm)

/-! ### targets -/
mutual
def gTgt (K : PySem.W.Frag) : Tg → TG
  | .nm i => gName i
  | .tup ts => gTup K ts.len (gTgts K ts)
def gTgts (K : PySem.W.Frag) : Tgs → TGs
  | .nil => gNil
  | .cons t r => gCons (gTgt K t) (gTgts K r)
def Tgs.len : Tgs → Nat
  | .nil => 0
  | .cons _ r => r.len + 1
end
/-- the names, but for some -/
structure EnvX (P : Nat → Prop) (K : PySem.W.Frag) (H : Hp) (ρ : List Addr) (env : Sl) (σ : L2.St) : Prop where
  len : env.length = σ.length
  at_ : ∀ (i : Nat) (v : Vl), ¬ P i → env[i]? = some (some v) → ∃ x, σ[i]? = some (some x) ∧ VR K H ρ v x
theorem EnvR.x {K : PySem.W.Frag} {H : Hp} {ρ : List Addr} {env : Sl} {σ : L2.St} (h : EnvR K H ρ env σ) (P : Nat → Prop) : EnvX P K H ρ env σ := ⟨h.len, fun i v _ q => h.at_ i v q⟩
theorem EnvX.r {P : Nat → Prop} {K : PySem.W.Frag} {H : Hp} {ρ : List Addr} {env : Sl} {σ : L2.St} (h : EnvX P K H ρ env σ) (n : ∀ i, ¬ P i) : EnvR K H ρ env σ := ⟨h.len, fun i v q => h.at_ i v (n i) q⟩
theorem wipe_get {σ : L2.St} : ∀ {vs : List Nat} {i : Nat}, i ∉ vs → (wipe σ vs)[i]? = σ[i]? := by
  intro vs
  induction vs with
  | nil => intro i _; rfl
  | cons k vs ih =>
    intro i h
    show ((wipe σ vs).set k none)[i]? = _
    rw [List.getElem?_set_ne (fun q => h (by rw [q]; exact List.mem_cons_self ..)), ih (fun q => h (List.mem_cons_of_mem _ q))]
theorem wipe_at {σ : L2.St} : ∀ {vs : List Nat} {i : Nat}, i ∈ vs → (wipe σ vs)[i]? = if i < σ.length then some none else none := by
  intro vs
  induction vs with
  | nil => intro i h; cases h
  | cons k vs ih =>
    intro i h
    show ((wipe σ vs).set k none)[i]? = _
    by_cases e : i = k
    · subst e
      by_cases hl : i < σ.length
      · rw [if_pos hl, List.getElem?_set_self (by rw [wipe_length]; exact hl)]
      · rw [if_neg hl, List.getElem?_eq_none (by rw [List.length_set, wipe_length]; omega)]
    · rw [List.getElem?_set_ne (fun q => e q.symm)]
      exact ih ((List.mem_cons.mp h).resolve_left e)
theorem EnvR.wiped {K : PySem.W.Frag} {H : Hp} {ρ : List Addr} {env : Sl} {σ : L2.St} (h : EnvR K H ρ env σ) (vs : List Nat) : EnvX (· ∈ vs) K H ρ env (wipe σ vs) := by
  refine ⟨by rw [wipe_length]; exact h.len, fun i v n q => ?_⟩
  obtain ⟨x, h1, h2⟩ := h.at_ i v q
  exact ⟨x, by rw [wipe_get n]; exact h1, h2⟩
theorem EnvX.set {P : Nat → Prop} {K : PySem.W.Frag} {H : Hp} {ρ : List Addr} {env : Sl} {σ : L2.St} (h : EnvX P K H ρ env σ) (i : Nat) {v : Vl} {x : V} (r : VR K H ρ v x) : EnvX (fun j => P j ∧ j ≠ i) K H ρ (env.set i (some v)) (σ.set i (some x)) := by
  refine ⟨by rw [List.length_set, List.length_set]; exact h.len, fun j u n q => ?_⟩
  by_cases e : i = j
  · subst e
    by_cases hi : i < env.length
    · rw [List.getElem?_set_self hi] at q
      cases q
      exact ⟨x, List.getElem?_set_self (by rw [← h.len]; exact hi), r⟩
    · rw [List.getElem?_eq_none (by rw [List.length_set]; omega)] at q
      cases q
  · rw [List.getElem?_set_ne e] at q
    obtain ⟨y, h1, h2⟩ := h.at_ j u (fun hp => n ⟨hp, fun z => e z.symm⟩) q
    exact ⟨y, by rw [List.getElem?_set_ne e]; exact h1, h2⟩
theorem EnvX.imp {P P' : Nat → Prop} {K : PySem.W.Frag} {H : Hp} {ρ : List Addr} {env : Sl} {σ : L2.St} (h : EnvX P K H ρ env σ) (k : ∀ i, P i → P' i) : EnvX P' K H ρ env σ := ⟨h.len, fun i v n q => h.at_ i v (fun hp => n (k i hp)) q⟩
theorem wipe_set_mem {σ : L2.St} {x : Option V} {vs : List Nat} {i : Nat} (h : i ∈ vs) : wipe (σ.set i x) vs = wipe σ vs := by
  apply List.ext_getElem?
  intro j
  by_cases hj : j ∈ vs
  · rw [wipe_at hj, wipe_at hj, List.length_set]
  · rw [wipe_get hj, wipe_get hj, List.getElem?_set_ne (fun q => hj (by rw [← q]; exact h))]
mutual
theorem tg_run {K : PySem.W.Frag} {H : Hp} {ρ : List Addr} {vs : List Nat} : ∀ (t : Tg) {P : Nat → Prop} {d : PyData} {v : V} {env env' : Sl} {σ : L2.St} {Q : L2.St → Hp → Prop}, bindT t d env = some env' → DR K H ρ d v → EnvX P K H ρ env σ →
    (∀ σ', EnvX (fun j => P j ∧ j ∉ t.slots) K H ρ env' σ' → ((∀ i ∈ t.slots, i ∈ vs) → wipe σ' vs = wipe σ vs) → Q σ' H) → gTgt K t v σ H Q
  | .nm i, P, d, v, env, env', σ, Q, hb, dr, er, hQ => by
    cases hb
    refine hQ _ ((er.set i (v := .d d) dr).imp fun j ⟨h1, h2⟩ => ⟨h1, fun q => h2 (by simpa [Tg.slots] using q)⟩) fun h => wipe_set_mem (h i (by simp [Tg.slots]))
  | .tup ts, P, d, v, env, env', σ, Q, hb, dr, er, hQ => by
    cases d with
    | tuple ds =>
      simp only [bindT] at hb
      cases dr with
      | @tup a xs _ q hs =>
        obtain ⟨l, go⟩ := tgs_run ts hb hs er hQ
        exact ⟨a, xs, rfl, Or.elim q (fun q => .inl q.1) WT.sq, l, go⟩
    | _ => cases hb
theorem tgs_run {K : PySem.W.Frag} {H : Hp} {ρ : List Addr} {vs : List Nat} : ∀ (t : Tgs) {P : Nat → Prop} {ds : List PyData} {xs : List V} {env env' : Sl} {σ : L2.St} {Q : L2.St → Hp → Prop}, bindTs t ds env = some env' → DRs K H ρ ds xs → EnvX P K H ρ env σ →
    (∀ σ', EnvX (fun j => P j ∧ j ∉ t.slots) K H ρ env' σ' → ((∀ i ∈ t.slots, i ∈ vs) → wipe σ' vs = wipe σ vs) → Q σ' H) → xs.length = t.len ∧ gTgts K t xs σ H Q
  | .nil, P, ds, xs, env, env', σ, Q, hb, dr, er, hQ => by
    cases dr with
    | nil =>
      cases hb
      exact ⟨rfl, rfl, hQ σ (er.imp fun j h => ⟨h, by simp [Tgs.slots]⟩) fun _ => rfl⟩
    | cons _ _ => cases hb
  | .cons t r, P, ds, xs, env, env', σ, Q, hb, dr, er, hQ => by
    cases dr with
    | nil => cases hb
    | @cons d v ds xs h1 h2 =>
      simp only [bindTs] at hb
      cases q : bindT t d env with
      | none => rw [q] at hb; cases hb
      | some e1 =>
        rw [q] at hb
        simp only at hb
        have l : xs.length = r.len := (tgs_run (vs := vs) r (σ := σ) (P := fun _ => True) (Q := fun _ _ => True) hb h2 ⟨by rw [bind_len t q]; exact er.len, fun i v n => (n trivial).elim⟩ (fun _ _ _ => trivial)).1
        refine ⟨congrArg Nat.succ l, v, xs, rfl, tg_run (vs := vs) t q h1 er fun σ1 er1 w1 => (tgs_run (vs := vs) r hb h2 er1 fun σ2 er2 w2 => ?_).2⟩
        refine hQ σ2 (er2.imp fun j ⟨⟨p1, p2⟩, p3⟩ => ⟨p1, fun z => (List.mem_append.mp (by simpa only [Tgs.slots] using z)).elim p2 p3⟩) fun h => ?_
        rw [w2 (fun i hi => h i (by simp only [Tgs.slots]; exact List.mem_append_right _ hi)), w1 (fun i hi => h i (by simp only [Tgs.slots]; exact List.mem_append_left _ hi))]
theorem bind_len : ∀ (t : Tg) {d : PyData} {env env' : Sl}, bindT t d env = some env' → env'.length = env.length
  | .nm i, d, env, env', h => by cases h; simp
  | .tup ts, d, env, env', h => by
    cases d with
    | tuple ds => simp only [bindT] at h; exact binds_len ts h
    | _ => cases h
theorem binds_len : ∀ (t : Tgs) {ds : List PyData} {env env' : Sl}, bindTs t ds env = some env' → env'.length = env.length
  | .nil, ds, env, env', h => by
    cases ds with
    | nil => cases h; rfl
    | cons _ _ => cases h
  | .cons t r, ds, env, env', h => by
    cases ds with
    | nil => cases h
    | cons d ds =>
      simp only [bindTs] at h
      cases q : bindT t d env with
      | none => rw [q] at h; cases h
      | some e1 =>
        rw [q] at h
        exact (binds_len r h).trans (bind_len t q)
end

def TDI (K : PySem.W.Frag) (E : SK) (f : Sl → Mem → Res Its) : TI := fun σ H R => ∃ ρ env m, EnvR K H ρ env σ ∧ MR K H ρ m ∧ Post K (E σ) H ρ (f env m) fun its m' H' ρ' => ∀ J, ItsR K H' ρ' m' its J → R J H'
/-- a list or a tuple walked -/
def iSeq (K : PySem.W.Frag) (tl : TE) : TI := fun σ H R => tl σ H fun x H1 => ∃ a, x = .ref a ∧ (((∃ xs, SqL K H1 a xs) ∧ R (Itl K a) H1) ∨ ((∃ xs, SqT K H1 a xs) ∧ R (Itt K a) H1))
theorem pi_seq {X : Cx} {tg l : Expr} {tl : TE} (hl : PE X l tl) : PI X tg l (iSeq X.K tl) := by
  refine ⟨fun pins s σ H R I h => ?_⟩
  refine thn (hl.run pins s σ H _ I h) fun v s1 ⟨x, H1, I1, r1, a, e, q⟩ => ?_
  subst e
  cases r1
  have fp : ∀ b ∈ [s1.heap.objs.size], FpOk X pins H1 b := fun b hb => by
    have e : b = s1.heap.objs.size := by simpa using hb
    subst e
    exact I1.fpOk (Nat.le_refl _) (I1.hok.fresh (Nat.le_refl _))
  rcases q with ⟨⟨xs, sq⟩, q⟩ | ⟨⟨xs, sq⟩, q⟩
  · obtain ⟨its, rv, p, hz⟩ := I1.list sq
    exact wpAny_pyIter_list p.isList ⟨_, [s1.heap.objs.size], _, _, H1, rfl, I1.kept (t' := s1.toks) fun b o e => Heap.get?_push_of_some _ e, turn_list a _, ⟨_, Heap.get?_push_size _ rfl, rfl, rfl⟩, fp, q⟩
  · obtain ⟨its, rv, p, hz⟩ := I1.tuple sq
    exact wpAny_pyIter_tuple (show s1.heap.IsTuple a its.toArray from p) ⟨_, [s1.heap.objs.size], _, _, H1, rfl, I1.kept (t' := s1.toks) fun b o e => Heap.get?_push_of_some _ e, turn_tuple a _, ⟨_, Heap.get?_push_size _ rfl, rfl, rfl⟩, fp, q⟩
theorem PI.imp {X : Cx} {tg l : Expr} {t t' : TI} (h : PI X tg l t) (w : ∀ σ H Q, t' σ H Q → t σ H Q) : PI X tg l t' := ⟨fun pins s σ H R I q => h.run pins s σ H R I (w _ _ _ q)⟩

/-! ### comprehensions -/
theorem Post.bindN {α β : Type} {K : PySem.W.Frag} {E E' : EK} {H : Hp} {ρ : List Addr} {r : Res α} {f : α → Mem → Res β} {k : β → Mem → Hp → List Addr → Prop} (p : Post K E H ρ (r.bindN f) k) :
    Post K E' H ρ r fun a m H' ρ' => Post K E H' ρ' (f a m) k := by
  cases r with
  | ok a m => exact fun H' ρ' e M => Post.ext e p
  | err x m => exact False.elim p
  | stk => exact p
theorem envR_wipe {K : PySem.W.Frag} {H : Hp} {ρ : List Addr} {env : Sl} {σ : St} (h : EnvR K H ρ env σ) (v : Nat) {u : Vl} {x : V} (r : VR K H ρ u x) : EnvR K H ρ (env.set v (some u)) ((wipe σ [v]).set v (some x)) := by
  have e : (wipe σ [v]).set v (some x) = σ.set v (some x) := by
    unfold wipe wipe
    rw [List.set_set]
  rw [e]
  exact h.set v r
theorem wipe_set {σ : St} {v : Nat} {x : V} : wipe ((wipe σ [v]).set v (some x)) [v] = wipe σ [v] := by
  show ((σ.set v none).set v (some x)).set v none = σ.set v none
  rw [List.set_set, List.set_set]
theorem Post.bind0 {α β : Type} {K : PySem.W.Frag} {E : EK} {H : Hp} {ρ : List Addr} {r : Res α} {f : α → Mem → Res β} {k : β → Mem → Hp → List Addr → Prop} (p : Post K E H ρ (r.bind f) k) :
    Post K E H ρ r fun a m _ _ => Post K E H ρ (f a m) k := by
  cases r with
  | ok a m => exact fun _ _ _ _ => p
  | err x m => exact p
  | stk => exact p
theorem wipe_wipe {σ : L2.St} {vs : List Nat} : wipe (wipe σ vs) vs = wipe σ vs := by
  apply List.ext_getElem?
  intro j
  by_cases h : j ∈ vs
  · rw [wipe_at h, wipe_at h, wipe_length]
  · rw [wipe_get h]
theorem lc_run {K : PySem.W.Frag} {E : EK} {tg : Tg} {vs : List Nat} {L : Nat} {c : Sl → Mem → Res Bool} {e : Sl → Mem → Res Vl} {src : List (Nat × List PyData)} {items : List PyData} {J : It} {m0 : Mem} {H0 : Hp} {ρ0 : List Addr} {σ : St} {env : Sl}
    {Q : Hp → Prop} {D : Addr} {k : Unit → Mem → Hp → List Addr → Prop} (hit : ItsR K H0 ρ0 m0 ⟨items, src⟩ J) (hvs : tg.slots = vs) (er : EnvR K H0 ρ0 env σ) (mr : MR K H0 ρ0 m0) (hL : L = m0.length) (hD : H0 D = none)
    (p : Post K E H0 ρ0 (lcLoop src tg L c e items env (m0 ++ [.lst []])) k) (hk : ∀ m H ρ, Ext H0 ρ0 H ρ → MR K H ρ m → ρ[L]? = some D → k () m H ρ → Q H) :
    ∃ W : Nat → Nat → Hp → Prop, (∃ n, W 0 n (upd H0 D (.lst []))) ∧ ∀ i n H, W i n H →
      (J.stop i H ∧ Q H) ∨ (J.go i H ∧ ∃ Nx : Hp → Prop, (∀ H', Nx H' → ∃ n', n' < n ∧ W (i + 1) n' H') ∧ ∀ x H', J.yld i H x H' → gTgt K tg x (wipe σ vs) H' fun σ2 H2 => wipe σ2 vs = wipe σ vs ∧ TDT K (fun _ => E) c σ2 H2 fun b H3 =>
        if b = true then TDE K (fun _ => E) e σ2 H3 fun y H4 => ∃ acc, H4 D = some (.lst acc) ∧ acc.length < sizeLine ∧ Nx (upd H4 D (.lst (acc ++ [y]))) else Nx H3) := by
  -- the new list is owned while it grows
  obtain ⟨M0, ex0⟩ := mr.push (o := .lst []) (ob := .lst []) hD ⟨[], upd_same, .nil⟩
  have hLD : (ρ0 ++ [D])[L]? = some D := by rw [hL, mr.len, List.getElem?_append_right (Nat.le_refl _)]; simp
  let W : Nat → Nat → Hp → Prop := fun i n H => n = items.length - i ∧ i ≤ items.length ∧ ∃ ρ m, Ext (upd H0 D (.lst [])) (ρ0 ++ [D]) H ρ ∧ MR K H ρ m ∧ Post K E H ρ (lcLoop src tg L c e (items.drop i) env m) k
  refine ⟨W, ⟨items.length, by simp, Nat.zero_le _, _, _, .refl _ _, M0, by rw [List.drop_zero]; exact Post.ext ex0 p⟩, ?_⟩
  rintro i n H ⟨rfl, hi, ρ, m, ex, M, p⟩
  have at_ : ∀ {H' : Hp} {ρ' : List Addr}, Ext (upd H0 D (.lst [])) (ρ0 ++ [D]) H' ρ' → ρ'[L]? = some D := fun {H' ρ'} e => by
    obtain ⟨t, rfl⟩ := e.pre
    rw [List.getElem?_append_left (List.getElem?_eq_some_iff.mp hLD).1]
    exact hLD
  have sm : same m src = true := by
    cases hd : items.drop i with
    | nil =>
      rw [hd] at p
      unfold lcLoop at p
      split at p
      · assumption
      · exact False.elim p
    | cons d r =>
      rw [hd] at p
      unfold lcLoop at p
      split at p
      · assumption
      · exact False.elim p
  obtain ⟨st1, st2⟩ := its_step hit (ex0.trans ex) M sm
  by_cases hlt : i < items.length
  · have hdr : items.drop i = items[i] :: items.drop (i + 1) := List.drop_eq_getElem_cons hlt
    obtain ⟨g1, g2⟩ := st1 i items[i] (List.getElem?_eq_getElem hlt)
    refine .inr ⟨g1, W (i + 1) (items.length - (i + 1)), fun H' w => ⟨_, by omega, w⟩, fun x H' y => ?_⟩
    obtain ⟨sH, dx⟩ := g2 x H' y
    have exS : Ext H ρ H' ρ := sext sH
    have MS := M.same sH
    rw [hdr] at p
    unfold lcLoop at p
    rw [if_pos sm] at p
    cases qb : bindT tg items[i] env with
    | none => rw [qb] at p; exact False.elim p
    | some env1 =>
    rw [qb] at p
    simp only at p
    refine tg_run tg (vs := vs) qb dx (((er.ext (ex0.trans ex)).ext exS).wiped vs) fun σ2 er2 w2 => ?_
    have erx := er2.r fun j ⟨h1, h2⟩ => h2 (by rw [hvs]; exact h1)
    have p := Post.ext exS p
    have ex := ex.trans exS
    refine ⟨by rw [w2 (fun j hj => by rw [← hvs]; exact hj), wipe_wipe], ρ, _, m, erx, MS, p.bind.imp fun b m1 H1 ρ1 e1 M1 p1 b' hb => ?_⟩
    cases hb
    cases b with
    | false =>
      show W (i + 1) _ H1
      exact ⟨rfl, hlt, ρ1, m1, ex.trans e1, M1, p1⟩
    | true =>
      show TDE K (fun _ => E) e _ H1 _
      refine ⟨ρ1, _, m1, erx.ext e1, M1, p1.bind.imp fun y m2 H2 ρ2 e2 M2 p2 z hz => ?_⟩
      cases y with
      | loc l => exact False.elim p2
      | d yd =>
        cases q : m2[L]? with
        | none => simp only [q] at p2; exact False.elim p2
        | some o =>
          simp only [q] at p2
          have ex2 := (ex.trans e1).trans e2
          have r := M2.ob L o D q (at_ ex2)
          cases o with
          | lst acc =>
            obtain ⟨vs, r1, r2⟩ := r
            simp only at p2
            split at p2
            · rename_i hsz
              refine ⟨vs, r1, by rw [← r2.length]; exact hsz, rfl, hlt, ρ2, m2.set L (.lst (acc ++ [yd])), ?_⟩
              have exu : Ext H2 ρ2 (upd H2 D (.lst (vs ++ [z]))) ρ2 := ⟨⟨[], by simp⟩, fun b u w n _ => ⟨by
                have nb : b ≠ D := fun q => n (by rw [q]; exact List.mem_of_getElem? (at_ ex2))
                rw [upd_ne nb]
                exact w, n⟩⟩
              obtain ⟨M3, e3⟩ := M2.put (o := .lst (vs ++ [z])) (ob := .lst (acc ++ [yd])) (at_ ex2) ⟨vs ++ [z], upd_same, (r2.ext exu).append (.cons (DR.ext exu hz) .nil)⟩
              exact ⟨ex2.trans e3, M3, Post.ext e3 p2⟩
            · exact False.elim p2
          | dct _ => exact False.elim p2
          | ins _ _ => exact False.elim p2
          | tab _ => exact False.elim p2
  · have e : i = items.length := by omega
    subst e
    rw [List.drop_length] at p
    unfold lcLoop at p
    rw [if_pos sm] at p
    exact .inl ⟨st2, hk _ _ _ (ex0.trans ex) M (at_ ex) (ok_now M p)⟩
/-! ### targets are checked -/
section
variable {X : Cx} {p : Str → Bool}
mutual
theorem pg_tgt (hc : X.calm = true) (hN : X.N.Nodup) (hp : ∀ y, p y = true → Loc X.env.scope y ∧ (X.fn y = true ∨ X.env.scope.names.lookup y = some .local)) : ∀ (t : Tg) (e : Expr), chkTg X.N p t e = true → PG X e (gTgt X.K t)
  | .nm i, e, h => by
    cases e with
    | Name x pos =>
      simp only [chkTg, Bool.and_eq_true, decide_eq_true_eq] at h
      obtain ⟨h1, h2⟩ := hp x h.2
      exact pg_name hN h.1 h1 h2
    | _ => simp [chkTg] at h
  | .tup ts, e, h => by
    cases e with
    | Tuple es k pos =>
      simp only [chkTg] at h
      obtain ⟨h1, h2, h3⟩ := pgs_tgt hc hN hp ts es h
      exact pg_tup hc h1 h2 h3
    | _ => simp [chkTg] at h
theorem pgs_tgt (hc : X.calm = true) (hN : X.N.Nodup) (hp : ∀ y, p y = true → Loc X.env.scope y ∧ (X.fn y = true ∨ X.env.scope.names.lookup y = some .local)) : ∀ (t : Tgs) (es : List Expr), chkTgs X.N p t es = true → PGs X es (gTgts X.K t) ∧ (assignEach es X.env).length = t.len ∧ (assignEach es X.env).findIdx? (·.1) = none
  | .nil, es, h => by
    cases es with
    | nil => exact ⟨pgs_nil, rfl, rfl⟩
    | cons _ _ => simp [chkTgs] at h
  | .cons t r, es, h => by
    cases es with
    | nil => simp [chkTgs] at h
    | cons e es =>
      simp only [chkTgs, Bool.and_eq_true] at h
      obtain ⟨h1, h2, h3⟩ := pgs_tgt hc hN hp r es h.2
      have pe := pg_tgt hc hN hp t e h.1
      have sh : assignEach (e :: es) X.env = (false, assign e X.env) :: assignEach es X.env := by
        cases t with
        | nm i => cases e <;> first | rfl | (have := h.1; simp [chkTg] at this)
        | tup ts => cases e <;> first | rfl | (have := h.1; simp [chkTg] at this)
      refine ⟨pgs_cons pe h1 (by rw [sh]; rfl), by rw [sh, List.length_cons, h2]; rfl, ?_⟩
      rw [sh, List.findIdx?_cons]
      simp [h3]
end
end
theorem loc_p {sc : Scope} {X : Cx} (hs : X.env.scope = sc) (hf : X.fn = fun _ => true) (y : Str) (h : locB sc y = true) : Loc X.env.scope y ∧ (X.fn y = true ∨ X.env.scope.names.lookup y = some .local) := ⟨by rw [hs]; exact loc_of h, .inl (by rw [hf])⟩
theorem lcP_p {sc scope : Scope} {X : Cx} (hs : X.env.scope = relS scope sc) (hf : X.fn = fun x => scope.names.lookup x == some .cell) (y : Str) (h : lcP sc scope y = true) : Loc X.env.scope y ∧ (X.fn y = true ∨ X.env.scope.names.lookup y = some .local) := by
  simp only [lcP, Bool.and_eq_true, Bool.or_eq_true, decide_eq_true_eq] at h
  rcases h with h | h
  · exact ⟨by rw [hs]; exact .inl h.2, .inr (by rw [hs]; exact h.2)⟩
  · refine ⟨by rw [hs]; exact .inr h.2, .inl ?_⟩
    rw [hf]
    simp only [h.1]
    rfl
end Ev

set_option maxHeartbeats 4000000
/-! Ev: suites of except clauses. -/
namespace Ev
open PySem PySem.Spec PyProof.Rows L2
set_option autoImplicit false
theorem EnvR.drop {K : PySem.W.Frag} {H : Hp} {ρ : List Addr} {env : Sl} {σ : St} (h : EnvR K H ρ env σ) (i : Nat) (x : Option V) : EnvR K H ρ (env.set i none) (σ.set i x) := by
  refine ⟨by rw [List.length_set, List.length_set]; exact h.len, fun j u q => ?_⟩
  by_cases e : i = j
  · subst e
    by_cases hi : i < env.length
    · rw [List.getElem?_set_self hi] at q
      cases q
    · rw [List.getElem?_eq_none (by rw [List.length_set]; omega)] at q
      cases q
  · rw [List.getElem?_set_ne e] at q ⊢
    exact h.at_ j u q
section
variable {T : List Fd} {S : Tab} {d : Nat} {sc : Scope} {X : Cx} {E : SK} {i : Nat} {n x : Str} {a C : Addr} {od : Option Addr} {ex : Exn} {ρ : List Addr} {oe : Obj} {pn : List (Addr × Obj)}
theorem isi_boot : bootBuiltins ("isinstance" : Str) = some (.builtin "isinstance") := by decide +kernel
theorem pe_nm {Y : Cx} {y : Str} {cv : Value} {p : Pos} (h : NmC Y.mg y cv) (hg : Gl Y y) : ∃ v : V, (∀ u, RelV v u → u = cv) ∧ PE Y (.Name y p) (tC v) := by
  obtain ⟨hd, hm, ht⟩ := h
  rcases ht with ⟨D, rfl⟩ | ⟨t, rfl⟩
  · refine ⟨.ref D, fun u r => r, ?_⟩
    rcases hm with hm | ⟨hm, hb, hn⟩
    · exact pe_glob hg hm rfl hd
    · exact pe_bltn hg hm hb rfl hn hd
  · refine ⟨.ty t, fun u r => r, ?_⟩
    rcases hm with hm | ⟨hm, hb, hn⟩
    · exact pe_glob hg hm rfl hd
    · exact pe_bltn hg hm hb rfl hn hd
theorem same_refl (H : Hp) : Same H H := fun _ _ h => h
theorem same_trans {H H1 H2 : Hp} (a : Same H H1) (b : Same H1 H2) : Same H H2 := fun c o h => b c o (a c o h)
theorem kitAny_of {K : PySem.W.Frag} {t : Value} : ∀ (cs : List (Value × Bool)), (∀ p ∈ cs, PySem.W.kitOne K t p.1 = some p.2) → PySem.W.kitAny K t (cs.map (·.1)) = some (cs.any (·.2))
  | [], _ => rfl
  | (c, b) :: r, h => by
    have h1 : PySem.W.kitOne K t c = some b := h (c, b) (List.mem_cons_self ..)
    have h2 := kitAny_of r fun p hp => h p (List.mem_cons_of_mem _ hp)
    simp only [List.map_cons, PySem.W.kitAny, h1, List.any_cons]
    cases b with
    | true => rfl
    | false => rw [h2]; rfl
theorem FX.same {K : PySem.W.Frag} {c : Value} {d : Option Addr} {e : Exn} {H H' : Hp} {ρ : List Addr} (h : FX K c d e H ρ) (s : Same H H') : FX K c d e H' ρ := by
  rcases h with h | ⟨C, dd, f, x, v, h1, h2, h3, h4, h5, h6, h7⟩
  · exact .inl h
  · exact .inr ⟨C, dd, f, x, v, h1, h2, h3, h4, h5, s _ _ h6, h7.ext (sext s)⟩
/-- where the caught thing stands -/
theorem inst_at {X : Cx} {a D : Addr} {d : Option Addr} {oe : Obj} {pn pins : List (Addr × Obj)} {σ : St} {H : Hp} {s : Shared} {e : Exn} {ρ : List Addr} {c : Value} (hz : Zc (.ref D) d oe) (hf : ∃ vs, oe.data = .fields vs) (fx : FX X.K c d e H ρ) (I : Inv (X.suite a ((a, oe) :: pn)) pins σ H s) :
    ∃ od, PySem.W.InstAt s.heap a oe D od := by
  obtain ⟨hget, _⟩ := I.pin (a, oe) (List.mem_append.mpr (.inl List.mem_cons_self))
  obtain ⟨vs, hv⟩ := hf
  obtain ⟨oc, od, oda, osl⟩ := oe
  obtain ⟨h1, h2⟩ := hz
  dsimp only at h1 h2 hv
  subst h1 h2 hv
  rcases fx with ⟨rfl, _⟩ | ⟨_, dd, f, x, v, _, _, _, rfl, _, h6, _⟩
  · exact ⟨none, hget, rfl, rfl, trivial⟩
  · have q : ObjOk X.prog X.w H s.heap dd (.xd [(f, v)]) := I.hok dd _ h6
    obtain ⟨mA, hns, _⟩ := q
    obtain ⟨o, es, ep, ho, _⟩ := hns
    exact ⟨some o, hget, rfl, rfl, ho⟩
theorem call_isA {X : Cx} {a D : Addr} {d : Option Addr} {oe : Obj} {pn : List (Addr × Obj)} (C : ExcC X.K D) (hz : Zc (.ref D) d oe) (hf : ∃ vs, oe.data = .fields vs) :
    CallR (X.suite a ((a, oe) :: pn)) (.builtin "isinstance") (fun xs H Q => ∃ (c0 : Value) (e : Exn) (ρ : List Addr) (c : V) (b : Bool), FX X.K c0 d e H ρ ∧ xs = [.ref a, c] ∧ ((∃ cv, (∀ u, RelV c u → u = cv) ∧ PySem.W.kitOne X.K (.ref D) cv = some b) ∨
      ∃ (p : Addr) (cs : List V) (cvs : List Value), c = .ref p ∧ SqT X.K H p cs ∧ (∀ us, Vals cs us → us = cvs) ∧ PySem.W.kitAny X.K (.ref D) cvs = some b) ∧ Q (.bl b) H) := by
  intro pins s σ H xs us Q I r h
  obtain ⟨c0, ex, ρ, c, b, fx, rfl, h, q⟩ := h
  cases r with
  | cons rx rr =>
    cases rr with
    | cons rt rr =>
      cases rr
      cases rx
      obtain ⟨od, J⟩ := inst_at hz hf fx I
      have Z : PySem.W.KitX X.K (.ref a) (.ref D) (fun g => PySem.W.InstAt g a oe D od) := by
        obtain ⟨cd, hc, _⟩ := PySem.W.any_some C.hd
        exact PySem.W.kitx_exc (by rw [hc]; rfl) C.hg C.hk C.hs C.ha C.hn C.ht C.hm
      rcases h with ⟨cv, hcv, e⟩ | ⟨p, cs, cvs, rfl, sq, hcv, e⟩
      · have ec := hcv _ rt
        subst ec
        exact PySem.W.kia_one Z I.kIn J e (fun z => nomatch z) fun tk => ⟨.bl b, H, I.kept (t' := tk) fun _ _ z => z, rfl, q⟩
      · cases rt
        obtain ⟨its, rv, ht, hz2⟩ := I.tuple sq
        have ec := hcv _ rv
        subst ec
        obtain ⟨o, ho, hc, n, hd⟩ := ht
        obtain ⟨oc, od', oda, osl⟩ := o
        simp only at hc hd
        subst hc hd
        exact PySem.W.kia_tup Z I.kIn J ho e (fun z => nomatch z) fun tk => ⟨.bl b, H, I.kept (t' := tk) fun _ _ z => z, rfl, q⟩
/-- the classes' names -/
theorem pa_names {Y : Cx} (hmg : Y.mg = X.mg) (F : Fine T S d sc X E) (hx : x ∈ S.cls) : ∀ (cs : List Str) (ws : List Expr), namesOf ws = some cs → (∀ c ∈ cs, gloB sc c = true) → Y.env = X.env →
    (∀ c ∈ cs, ∃ b, (x, c, b) ∈ S.exm ∧ (b = true ↔ (x, c, true) ∈ S.exm)) →
    ∃ (vs : List V) (cvs : List (Value × Bool)), vs.length = cs.length ∧ PA Y ws (fun σ H Q => Q vs H) ∧ (∀ us, Vals vs us → us = cvs.map (·.1)) ∧ (∀ p ∈ cvs, ∃ C', X.mg x = some (.ref C') ∧ PySem.W.kitOne X.K (.ref C') p.1 = some p.2) ∧ cvs.any (·.2) = cs.any (fun c => S.exm.contains (x, c, true))
  | cs, [], h, _, _, _ => by
    cases h
    exact ⟨[], [], rfl, PA.imp pa_nil fun σ H Q q => q, fun us r => by cases r; rfl, fun p hp => (by cases hp), rfl⟩
  | cs, w :: ws, h, hg, he, hb => by
    cases w with
    | Name y p =>
      simp only [namesOf, Option.map_eq_some_iff] at h
      obtain ⟨cs', h1, rfl⟩ := h
      obtain ⟨vs, cvs, q0, q1, q2, q3, q4⟩ := pa_names hmg F hx cs' ws h1 (fun c hc => hg c (List.mem_cons_of_mem _ hc)) he (fun c hc => hb c (List.mem_cons_of_mem _ hc))
      obtain ⟨b, hb1, hb2⟩ := hb y (List.mem_cons_self ..)
      obtain ⟨C', cv, k1, k2, k3, k4⟩ := F.em _ _ _ hb1
      have hgl : Gl Y y := by show Y.env.scope.names.lookup _ = _; rw [he, F.sc]; exact glo_of (hg y (List.mem_cons_self ..))
      obtain ⟨v, v1, pv⟩ := pe_nm (Y := Y) (p := p) (hmg ▸ k2) hgl
      refine ⟨v :: vs, (cv, b) :: cvs, by rw [List.length_cons, List.length_cons, q0], PA.imp (pa_cons pv q1 rfl) fun σ H Q q => q, fun us r => ?_, fun p hp => ?_, ?_⟩
      · cases r with
        | cons r1 r2 => rw [v1 _ r1, q2 _ r2]; rfl
      · rcases List.mem_cons.mp hp with rfl | hp
        · exact ⟨C', k1, k3⟩
        · exact q3 p hp
      · rw [List.any_cons, List.any_cons, q4]
        congr 1
        show b = S.exm.contains (x, y, true)
        rw [Bool.eq_iff_iff, hb2, List.contains_iff_mem]
    | _ => cases h
/-- what is asked of the caught thing -/
theorem soundHT (F : Fine T S d sc X E) (hi : X.N[i]? = some n) (hv : Vis X.env.scope n) (n1 : (n == ("__debug__" : Str)) = false) (n2 : (n == ("__classdict__" : Str)) = false) (hx : x ∈ S.cls) (hm : X.mg x = some (.ref C)) (hz : Zc (.ref C) od oe) (hf : ∃ vs, oe.data = .fields vs) :
    ∀ (t : CHT) (e : Expr), chkHT S sc n t e = true → PE (X.suite a ((a, oe) :: pn)) e (fun σ H Q => σ[i]? = some (some (.ref a)) ∧ FX X.K (.ref C) od ex H ρ ∧ ∀ H', Same H H' → Q (.bl (t.den x)) H')
  | .is1 c acc, e, h => by
    simp only [chkHT] at h
    split at h
    · rename_i y p1 z p2 w p3 p4
      simp only [Bool.and_eq_true, decide_eq_true_eq] at h
      obtain ⟨⟨⟨⟨⟨rfl, h1⟩, rfl⟩, rfl⟩, h2⟩, h3⟩ := h
      have hm3 : (x, w, acc.contains x) ∈ S.exm := by
        have := List.all_eq_true.mp h3 x hx
        simpa using this
      obtain ⟨C', cv, q1, q2, q3, q4⟩ := F.em _ _ _ hm3
      rw [hm] at q1
      cases q1
      obtain ⟨C2, k1, kc⟩ := F.cl x hx
      rw [hm] at k1
      cases k1
      have hg1 : Gl X ("isinstance" : Str) := by show X.env.scope.names.lookup _ = _; rw [F.sc]; exact glo_of h1
      have hg2 : Gl X w := by show X.env.scope.names.lookup _ = _; rw [F.sc]; exact glo_of h2
      obtain ⟨v, v1, pv⟩ := pe_nm (Y := X.suite a ((a, oe) :: pn)) (p := p3) q2 hg2
      refine PE.imp (pe_callB (X := X.suite a ((a, oe) :: pn)) (call_isA kc hz hf) hg1 (F.un _ (by decide +kernel)) isi_boot (pa_cons (pe_var (X := X.suite a ((a, oe) :: pn)) hi hv n1 n2) (pa_cons pv pa_nil rfl) rfl) (by decide +kernel) (by decide +kernel) rfl rfl) fun σ H Q ⟨s1, fx, q⟩ => ?_
      exact ⟨.ref a, s1, _, ex, ρ, v, acc.contains x, fx, rfl, .inl ⟨cv, v1, q3⟩, q H (same_refl H)⟩
    · cases h
  | .isN cs acc, e, h => by
    simp only [chkHT] at h
    split at h
    · rename_i y p1 z p2 ws kk p3 p4
      simp only [Bool.and_eq_true, decide_eq_true_eq] at h
      obtain ⟨⟨⟨⟨⟨⟨rfl, h1⟩, rfl⟩, h2⟩, h3⟩, h4⟩, h5⟩ := h
      obtain ⟨C2, k1, kc⟩ := F.cl x hx
      rw [hm] at k1
      cases k1
      have hN := List.all_eq_true.mp h5 x hx
      simp only [Bool.and_eq_true] at hN
      obtain ⟨⟨n3, n4⟩, n5⟩ := hN
      have hb : ∀ c ∈ cs, ∃ b, (x, c, b) ∈ S.exm ∧ (b = true ↔ (x, c, true) ∈ S.exm) := fun c hc => by
        have z := List.all_eq_true.mp n3 c hc
        rcases Bool.or_eq_true_iff.mp z with z | z
        · exact ⟨true, List.contains_iff_mem.mp z, fun _ => List.contains_iff_mem.mp z, fun _ => rfl⟩
        · refine ⟨false, List.contains_iff_mem.mp z, fun w => (by cases w), fun w => ?_⟩
          have n6 := List.all_eq_true.mp n5 c hc
          rw [List.contains_iff_mem.mpr w, z] at n6
          cases n6
      obtain ⟨vs, cvs, q0, q1, q2, q3, q4⟩ := pa_names (X := X) (Y := X.suite a ((a, oe) :: pn)) rfl F hx cs ws h2 (fun c hc => List.all_eq_true.mp h3 c hc) rfl hb
      have q3' : ∀ p ∈ cvs, PySem.W.kitOne X.K (.ref C) p.1 = some p.2 := fun p hp => by
        obtain ⟨C', k1, k2⟩ := q3 p hp
        rw [hm] at k1
        cases k1
        exact k2
      have hg1 : Gl X ("isinstance" : Str) := by show X.env.scope.names.lookup _ = _; rw [F.sc]; exact glo_of h1
      refine PE.imp (pe_callB (X := X.suite a ((a, oe) :: pn)) (call_isA kc hz hf) hg1 (F.un _ (by decide +kernel)) isi_boot (pa_cons (pe_var (X := X.suite a ((a, oe) :: pn)) hi hv n1 n2) (pa_cons (pe_tup q1) pa_nil rfl) rfl) (by decide +kernel) (by decide +kernel) rfl rfl) fun σ H Q ⟨s1, fx, q⟩ => ?_
      refine ⟨.ref a, s1, by rw [q0]; exact Nat.le_trans h4 (by rw [sizeLine_eq]; decide), fun p hp => ?_⟩
      refine ⟨_, ex, ρ, .ref p, cvs.any (·.2), fx.same (same_upd hp), rfl, .inr ⟨p, vs, cvs.map (·.1), rfl, .inl (.inl upd_same), q2, kitAny_of cvs q3'⟩, ?_⟩
      have e : cvs.any (·.2) = acc.contains x := by rw [q4]; exact (eq_of_beq n4).symm
      rw [e]
      exact q _ (same_upd hp)
    · cases h
  | .not_ t, e, h => by
    simp only [chkHT] at h
    split at h
    · exact PE.imp (pe_not (soundHT F hi hv n1 n2 hx hm hz hf t _ h)) fun σ H Q ⟨s1, fx, q⟩ => ⟨s1, fx, fun H' sm => ⟨_, rfl, q H' sm⟩⟩
    · cases h
  | .and_ t u, e, h => by
    simp only [chkHT] at h
    split at h
    · simp only [Bool.and_eq_true] at h
      refine PE.imp (pe_and (soundHT F hi hv n1 n2 hx hm hz hf t _ h.1) (pe_one (soundHT F hi hv n1 n2 hx hm hz hf u _ h.2))) fun σ H Q ⟨s1, fx, q⟩ => ⟨s1, fx, fun H' sm => ⟨_, rfl, ?_⟩⟩
      simp only [CHT.den] at q
      cases ht : t.den x with
      | true => rw [if_pos rfl]; exact ⟨s1, fx.same sm, fun H'' sm2 => by have := q H'' (same_trans sm sm2); rw [ht, Bool.true_and] at this; exact this⟩
      | false => rw [if_neg Bool.false_ne_true]; have := q H' sm; rw [ht, Bool.false_and] at this; exact this
    · simp only [Bool.and_eq_true] at h
      refine PE.imp (pe_and (soundHT F hi hv n1 n2 hx hm hz hf t _ h.1) (soundHT F hi hv n1 n2 hx hm hz hf u _ h.2)) fun σ H Q ⟨s1, fx, q⟩ => ⟨s1, fx, fun H' sm => ⟨_, rfl, ?_⟩⟩
      simp only [CHT.den] at q
      cases ht : t.den x with
      | true => rw [if_pos rfl]; exact ⟨s1, fx.same sm, fun H'' sm2 => by have := q H'' (same_trans sm sm2); rw [ht, Bool.true_and] at this; exact this⟩
      | false => rw [if_neg Bool.false_ne_true]; have := q H' sm; rw [ht, Bool.false_and] at this; exact this
    · cases h
/-- .. as a test -/
theorem soundHTt (F : Fine T S d sc X E) (hi : X.N[i]? = some n) (hv : Vis X.env.scope n) (n1 : (n == ("__debug__" : Str)) = false) (n2 : (n == ("__classdict__" : Str)) = false) (hx : x ∈ S.cls) (hm : X.mg x = some (.ref C)) (hz : Zc (.ref C) od oe) (hf : ∃ vs, oe.data = .fields vs) :
    ∀ (t : CHT) (e : Expr), chkHT S sc n t e = true → PT (X.suite a ((a, oe) :: pn)) e (fun σ H Q => σ[i]? = some (some (.ref a)) ∧ FX X.K (.ref C) od ex H ρ ∧ ∀ H', Same H H' → Q (t.den x) H') ∧ ∀ es p, e = .BoolOp .And es p → PW (X.suite a ((a, oe) :: pn)) e (fun σ H Q => σ[i]? = some (some (.ref a)) ∧ FX X.K (.ref C) od ex H ρ ∧ ∀ H', Same H H' → Q (t.den x) H')
  | .is1 c acc, e, h => by
    have pe := soundHT (ex := ex) (ρ := ρ) (pn := pn) (a := a) F hi hv n1 n2 hx hm hz hf (.is1 c acc) e h
    simp only [chkHT] at h
    split at h
    · exact ⟨PT.imp (pt_val pe fun _ => rfl) fun σ H Q ⟨s1, fx, q⟩ => ⟨s1, fx, fun H' sm => ⟨_, rfl, q H' sm⟩⟩, fun _ _ z => by cases z⟩
    · cases h
  | .isN cs acc, e, h => by
    have pe := soundHT (ex := ex) (ρ := ρ) (pn := pn) (a := a) F hi hv n1 n2 hx hm hz hf (.isN cs acc) e h
    simp only [chkHT] at h
    split at h
    · exact ⟨PT.imp (pt_val pe fun _ => rfl) fun σ H Q ⟨s1, fx, q⟩ => ⟨s1, fx, fun H' sm => ⟨_, rfl, q H' sm⟩⟩, fun _ _ z => by cases z⟩
    · cases h
  | .not_ t, e, h => by
    simp only [chkHT] at h
    split at h
    · exact ⟨PT.imp (pt_not (soundHTt F hi hv n1 n2 hx hm hz hf t _ h).1) fun σ H Q ⟨s1, fx, q⟩ => ⟨s1, fx, q⟩, fun _ _ z => by cases z⟩
    · cases h
  | .and_ t u, e, h => by
    have fin : ∀ (σ : St) (H : Hp) (Q : Bool → Hp → Prop), (σ[i]? = some (some (.ref a)) ∧ FX X.K (.ref C) od ex H ρ ∧ ∀ H', Same H H' → Q ((CHT.and_ t u).den x) H') → tAnd (fun σ H Q => σ[i]? = some (some (.ref a)) ∧ FX X.K (.ref C) od ex H ρ ∧ ∀ H', Same H H' → Q (t.den x) H') (fun σ H Q => σ[i]? = some (some (.ref a)) ∧ FX X.K (.ref C) od ex H ρ ∧ ∀ H', Same H H' → Q (u.den x) H') σ H Q := fun σ H Q ⟨s1, fx, q⟩ => by
      refine ⟨s1, fx, fun H' sm => ?_⟩
      simp only [CHT.den] at q
      cases ht : t.den x with
      | true => rw [if_pos rfl]; exact ⟨s1, fx.same sm, fun H'' sm2 => by have := q H'' (same_trans sm sm2); rw [ht, Bool.true_and] at this; exact this⟩
      | false => rw [if_neg Bool.false_ne_true]; have := q H' sm; rw [ht, Bool.false_and] at this; exact this
    simp only [chkHT] at h
    split at h
    · rename_i pp
      simp only [Bool.and_eq_true] at h
      have w := PW.imp (pw_and (pos := pp) (soundHTt F hi hv n1 n2 hx hm hz hf t _ h.1).1 (pw_and1 (soundHTt F hi hv n1 n2 hx hm hz hf u _ h.2).1)) fin
      exact ⟨⟨fun pins s σ H Q I q => w.run _ pins s σ H Q I q⟩, fun _ _ _ => w⟩
    · rename_i pp
      simp only [Bool.and_eq_true] at h
      have w := PW.imp (pw_and (pos := pp) (soundHTt F hi hv n1 n2 hx hm hz hf t _ h.1).1 ((soundHTt F hi hv n1 n2 hx hm hz hf u _ h.2).2 _ _ rfl)) fin
      exact ⟨⟨fun pins s σ H Q I q => w.run _ pins s σ H Q I q⟩, fun _ _ _ => w⟩
    · cases h
/-- its values -/
theorem soundHV (F : Fine T S d sc X E) (hi : X.N[i]? = some n) (hv : Vis X.env.scope n) (n1 : (n == ("__debug__" : Str)) = false) (n2 : (n == ("__classdict__" : Str)) = false) (hx : ex.cls ∈ S.cls) (hm : X.mg ex.cls = some (.ref C)) (hz : Zc (.ref C) od oe) (hf : ∃ vs, oe.data = .fields vs) :
    ∀ (v : CHV) (e : Expr), chkHV S sc n v e = true → PE (X.suite a ((a, oe) :: pn)) e (fun σ H Q => v.ok ex = true ∧ σ[i]? = some (some (.ref a)) ∧ ∃ ρ m, MR X.K H ρ m ∧ FX X.K (.ref C) od ex H ρ ∧ ∀ H' y, Same H H' → VR X.K H' ρ (.d (v.den ex)) y → Q y H')
  | .str z, e, h => by
    simp only [chkHV] at h
    split at h
    · rename_i y j p
      cases of_decide_eq_true h
      exact PE.imp pe_str fun σ H Q ⟨_, _, ρ, m, _, _, q⟩ => q H _ (same_refl H) (.str _)
    · cases h
  | .int z, e, h => by
    simp only [chkHV] at h
    split at h
    · rename_i y j p
      cases of_decide_eq_true h
      exact PE.imp pe_int fun σ H Q ⟨_, _, ρ, m, _, _, q⟩ => q H _ (same_refl H) (.int _)
    · cases h
  | .fld f, e, h => by
    simp only [chkHV] at h
    split at h
    · rename_i y p1 g p2
      simp only [Bool.and_eq_true, decide_eq_true_eq] at h
      obtain ⟨rfl, rfl⟩ := h
      refine ⟨fun pins s σ H Q I ⟨ok, s1, ρ, m, mr, fx, q⟩ => ?_⟩
      rcases fx with ⟨_, h2⟩ | ⟨C', dd, f, xx, v, h1, h2, h3, h4, h5, h6, h7⟩
      · simp [CHV.ok, h2] at ok
      · cases h1
        subst h4
        have ef : g = f := by
          simp only [CHV.ok, h5, List.lookup] at ok
          split at ok
          · rename_i w; exact eq_of_beq w
          · cases ok
        subst ef
        refine (pe_xf h2 h3 hz hf (pe_var (X := X.suite a ((a, oe) :: pn)) (i := i) hi hv n1 n2) rfl).run pins s σ H Q I ?_
        refine ⟨.ref a, s1, rfl, rfl, dd, _, v, rfl, h6, ?_, q H v (same_refl H) ?_⟩
        · simp [List.lookup]
        · simp only [CHV.den, h5, List.lookup, beq_self_eq_true, Option.getD_some]
          exact h7
    · cases h
  | .pair u v, e, h => by
    simp only [chkHV] at h
    split at h
    · rename_i e1 e2 k p
      simp only [Bool.and_eq_true] at h
      obtain ⟨⟨⟨h1, h2⟩, h3⟩, h4⟩ := h
      refine PE.imp (pe_tup (pa_cons (soundHV F hi hv n1 n2 hx hm hz hf u _ h1) (pa_cons (soundHV F hi hv n1 n2 hx hm hz hf v _ h2) pa_nil (star_plain h4 [] _)) (star_plain h3 _ _))) fun σ H Q ⟨ok, s1, ρ, m, mr, fx, q⟩ => ?_
      simp only [CHV.ok, Bool.and_eq_true] at ok
      refine ⟨ok.1, s1, ρ, m, mr, fx, fun H1 y1 sm1 r1 => ⟨ok.2, s1, ρ, m, mr.same sm1, fx.same sm1, fun H2 y2 sm2 r2 => ⟨by show 2 ≤ sizeLine; rw [sizeLine_eq]; decide, fun p hp => ?_⟩⟩⟩
      have sm := same_trans (same_trans sm1 sm2) (same_upd (o := .tup [y1, y2]) hp)
      refine q _ (.ref p) sm (DR.tup (.inl ⟨.inl upd_same, (mr.same (same_trans sm1 sm2)).fresh hp⟩) (.cons (DR.ext (sext (same_trans sm2 (same_upd hp))) r1) (.cons (DR.ext (sext (same_upd hp)) r2) .nil)))
    · cases h
  | .tst t, e, h => by
    simp only [chkHV] at h
    refine ⟨fun pins s σ H Q I ⟨ok, s1, ρ, m, mr, fx, q⟩ => ?_⟩
    exact (soundHT (ex := ex) (ρ := ρ) F hi hv n1 n2 hx hm hz hf t e h).run pins s σ H Q I ⟨s1, fx, fun H' sm => q H' _ sm (.bl _)⟩
  | .ifx t u v, e, h => by
    simp only [chkHV] at h
    split at h
    · simp only [Bool.and_eq_true] at h
      refine ⟨fun pins s σ H Q I ⟨ok, s1, ρ, m, mr, fx, q⟩ => ?_⟩
      refine (pe_ifExp (soundHTt (ex := ex) (ρ := ρ) F hi hv n1 n2 hx hm hz hf t _ h.1.1).1 (soundHV F hi hv n1 n2 hx hm hz hf u _ h.1.2) (soundHV F hi hv n1 n2 hx hm hz hf v _ h.2)).run pins s σ H Q I ⟨s1, fx, fun H' sm => ?_⟩
      simp only [CHV.den] at q
      simp only [CHV.ok] at ok
      cases ht : t.den ex.cls with
      | true => rw [if_pos rfl]; rw [ht] at q ok; exact ⟨ok, s1, ρ, m, mr.same sm, fx.same sm, fun H2 y sm2 r => q H2 y (same_trans sm sm2) r⟩
      | false => rw [if_neg Bool.false_ne_true]; rw [ht] at q ok; exact ⟨ok, s1, ρ, m, mr.same sm, fx.same sm, fun H2 y sm2 r => q H2 y (same_trans sm sm2) r⟩
    · cases h
/-- what a suite is worth: the slot i holds the caught thing -/
def TDH (K : PySem.W.Frag) (C : Addr) (od : Option Addr) (ex : Exn) (i : Nat) (a : Addr) (f : Sl → Mem → Res (Fl × Sl)) : TS := fun D σ H => σ[i]? = some (some (.ref a)) ∧ ∃ ρ env m, EnvR K H ρ env σ ∧ MR K H ρ m ∧ FX K (.ref C) od ex H ρ ∧ Post K (fun _ _ _ _ => False) H ρ (f env m) fun q _ H' ρ' => (match q.1 with
  | .nx => ∀ σ, EnvR K H' ρ' q.2 σ → D.nx σ H'
  | .ret v => ∀ x, VR K H' ρ' v x → D.rt x H'
  | .brk => ∀ σ, EnvR K H' ρ' q.2 σ → D.bk σ H'
  | .cont => ∀ σ, EnvR K H' ρ' q.2 σ → D.ct σ H')
theorem soundHs (F : Fine T S d sc X E) (hfn : X.fn = (fun _ => true)) (hi : S.N[i]? = some n) (hv : Vis X.env.scope n) (n1 : (n == ("__debug__" : Str)) = false) (n2 : (n == ("__classdict__" : Str)) = false) (hx : ex.cls ∈ S.cls) (hm : X.mg ex.cls = some (.ref C)) (hz : Zc (.ref C) od oe) (hf : ∃ vs, oe.data = .fields vs) :
    ∀ (h : List CH) (ss : List Stmt), chkHs S sc n h ss = true → PSs (X.suite a ((a, oe) :: pn)) ss (TDH X.K C od ex i a (denH ex h))
  | [], ss, h => by
    cases ss with
    | nil => exact PSs.imp pss_nil fun D σ H ⟨_, ρ, env, m, er, mr, _, p⟩ => ok_now mr p σ er
    | cons _ _ => simp [chkHs] at h
  | .ret v :: r, ss, h => by
    have hi' : X.N[i]? = some n := by rw [F.N]; exact hi
    simp only [chkHs] at h
    split at h
    · simp only [Bool.and_eq_true] at h
      refine PSs.imp (pss_cons (ps_ret (soundHV F hi' hv n1 n2 hx hm hz hf v _ h.1)) (soundHs F hfn hi hv n1 n2 hx hm hz hf r _ h.2)) fun D σ H ⟨s1, ρ, env, m, er, mr, fx, p⟩ => ?_
      rw [denH] at p
      cases ok : v.ok ex with
      | false => rw [ok] at p; exact False.elim p
      | true =>
        rw [ok] at p
        exact ⟨rfl, s1, ρ, m, mr, fx, fun H' y sm ry => p H' ρ (sext sm) (mr.same sm) _ ry⟩
    · cases h
  | .set j v :: r, ss, h => by
    have hi' : X.N[i]? = some n := by rw [F.N]; exact hi
    simp only [chkHs] at h
    split at h
    · rename_i y px e pos ss
      simp only [Bool.and_eq_true, decide_eq_true_eq] at h
      obtain ⟨⟨⟨⟨⟨h1, h2⟩, h3⟩, h4⟩, h5⟩, h6⟩ := h
      have hj : X.N[j]? = some y := by rw [F.N]; exact h1
      have hl : Loc X.env.scope y := by rw [F.sc]; exact loc_of h2
      have hij : j ≠ i := fun z => by subst z; rw [hi] at h1; cases h1; exact h5 rfl
      refine PSs.imp (pss_cons (ps_set (X := X.suite a ((a, oe) :: pn)) (i := j) (by show X.N.Nodup; rw [F.N]; exact F.nd) hj hl (soundHV F hi' hv n1 n2 hx hm hz hf v _ h3) (sw_plain h4 _ _ _) (.inl (by show X.fn y = true; rw [hfn]))) (soundHs F hfn hi hv n1 n2 hx hm hz hf r _ h6)) fun D σ H ⟨s1, ρ, env, m, er, mr, fx, p⟩ => ?_
      rw [denH] at p
      cases ok : v.ok ex with
      | false => rw [ok] at p; exact False.elim p
      | true =>
        rw [ok] at p
        refine ⟨rfl, s1, ρ, m, mr, fx, fun H' y sm ry => ⟨?_, ρ, _, m, (er.ext (sext sm)).set j ry, mr.same sm, fx.same sm, p.ext (sext sm)⟩⟩
        rw [List.getElem?_set_ne hij]
        exact s1
    · cases h
  | .ifret t v :: r, ss, h => by
    have hi' : X.N[i]? = some n := by rw [F.N]; exact hi
    simp only [chkHs] at h
    split at h
    · simp only [Bool.and_eq_true] at h
      refine ⟨fun pins s σ H D I ⟨s1, ρ, env, m, er, mr, fx, p⟩ => ?_⟩
      refine (pss_cons (ps_if (soundHTt (ex := ex) (ρ := ρ) F hi' hv n1 n2 hx hm hz hf t _ h.1.1).1 (pss_cons (ps_ret (soundHV F hi' hv n1 n2 hx hm hz hf v _ h.1.2)) pss_nil) pss_nil) (soundHs F hfn hi hv n1 n2 hx hm hz hf r _ h.2)).run pins s σ H D I ⟨s1, fx, fun H' sm => ?_⟩
      rw [denH] at p
      cases ht : t.den ex.cls with
      | true =>
        rw [ht] at p
        rw [if_pos rfl]
        cases ok : v.ok ex with
        | false => rw [ok] at p; exact False.elim p
        | true =>
          rw [ok] at p
          exact ⟨rfl, s1, ρ, m, mr.same sm, fx.same sm, fun H2 y sm2 ry => p H2 ρ (sext (same_trans sm sm2)) (mr.same (same_trans sm sm2)) _ ry⟩
      | false => rw [ht] at p; rw [if_neg Bool.false_ne_true]; exact ⟨s1, ρ, env, m, er.ext (sext sm), mr.same sm, fx.same sm, p.ext (sext sm)⟩
    · cases h
theorem denH_noerr (x : Exn) : ∀ (h : List CH) (env : Sl) (m : Mem) (e : Exn) (m' : Mem), denH x h env m ≠ .err e m'
  | [], _, _, _, _ => fun z => by cases z
  | .ret v :: _, _, _, _, _ => fun z => by
    rw [denH] at z
    split at z <;> cases z
  | .set i v :: r, env, m, e, m' => fun z => by
    rw [denH] at z
    split at z
    · exact denH_noerr x r _ m e m' z
    · cases z
  | .ifret t v :: r, env, m, e, m' => fun z => by
    rw [denH] at z
    split at z
    · split at z <;> cases z
    · exact denH_noerr x r env m e m' z
end
end Ev

set_option maxHeartbeats 4000000
/-! Ev: x(lambda: body), x a def that tries it. -/
namespace Ev
open PySem PySem.Spec PyProof.Rows L2
set_option autoImplicit false
theorem callN_down {T : List Fd} (hT : T.length ≤ 900) (n : Nat) : down (callN T (n + 2)) = callN T n := by
  funext g args m
  unfold down
  have e : T[g + 1000]? = none := List.getElem?_eq_none (by omega)
  rw [callN]
  simp only [e]
  rw [if_neg (by omega), if_pos (by omega)]
  simp only [Nat.add_sub_cancel]
theorem probe {T : List Fd} (hT : T.length ≤ 900) {K : PySem.W.Frag} {E : EK} {H : Hp} {ρ : List Addr} {γ : Type} {f : Vl → Mem → Res γ} {k : γ → Mem → Hp → List Addr → Prop} (d : Nat) (m : Mem) (p : Post K E H ρ ((callN T d 1999 [] m).bindN f) k) : ∃ n, d = n + 3 ∧ Post K E H ρ (f (.d .none) m) k := by
  have e : T[1999]? = none := List.getElem?_eq_none (by omega)
  have e2 : T[999]? = none := List.getElem?_eq_none (by omega)
  match d, p with
  | 0, p => exact False.elim p
  | 1, p =>
    rw [callN] at p
    simp only [e] at p
    exact False.elim p
  | 2, p =>
    rw [callN] at p
    simp only [e] at p
    exact False.elim p
  | n + 3, p =>
    refine ⟨n, rfl, ?_⟩
    have q : callN T (n + 3) 1999 [] m = .ok (.d .none) m := by
      rw [callN]
      simp only [e]
      rw [if_neg (by omega), if_pos (by omega)]
      show callN T (n + 1) 999 [] m = _
      unfold callN
      simp only [e2, if_true]
    rw [q] at p
    exact p
/-- what flies, as a wish -/
def ekOf (K : PySem.W.Frag) (mg : Str → Option Value) (E : XK) : SK := fun _ e _ H ρ => ∀ c od, XR K mg ρ e c od H → E c od H
section
variable {T : List Fd} {S : Tab} {d : Nat} {sc : Scope} {X : Cx} {E : SK}
/-- the lambda's own context is fine -/
theorem Fine.lam (F : Fine T S (d + 2) sc X E) (scope : Scope) (A : Around) (outer : List Env) (s : Shared) (H : Hp) (EE : XK) (f c' : Addr) (hA : A.guards = some []) (hr : Room d (A.deeper (LamX.lamEnv X scope s.heap.objs.size f c'))) :
    Fine T { S with lams := [] } d scope (LamX.lamCx X A outer s H EE scope f c') (ekOf X.K X.mg EE) :=
  ⟨rfl, F.nd, F.N, rfl, hA, hr, F.un, F.gk, F.cl, F.em, fun d' h => F.fn d' (by omega), TakesL.of rfl rfl ((takes_of rfl rfl rfl rfl).imp fun c od σ H' ⟨e, m, ρ, x, _, h⟩ => h c od x), F.sy, F.tb, F.c0, F.xc, F.tf, fun h => absurd rfl h, F.tl⟩
end
/-- the thunk's call, in the def that got it -/
theorem lam_act {X : Cx} {pins : List (Addr × Obj)} {σ : L2.St} {H : Hp} {s : Shared} {CXg : CXT} {Eg : XK} {Ng : List Str} {qg : Str} {sg : Scope} {g f c' : Addr} {cdg pm ctv : Value} {params : Arguments} {body : Expr} {scope : Scope} {k : Nat} {a : Str} {pn : List (Addr × Obj)}
    {xe : Value → Shared → Prop} {W : WX} {tl : XK → TE} {p1 p2 : Pos} (I : Inv X pins σ H s) (L : LamX.LamS X.env.scope scope) (lf : s.heap.get? f = some (PySem.W.kla_obj "<lambda>" (X.env.qual ++ "<lambda>") params body scope (cloFrom X.env.cells scope.names []) pm c' ctv))
    (nH : H f = none) (nfr : f ∉ frs X.stack) (bnd : bindArgs (PySem.W.kla_fn "<lambda>" (X.env.qual ++ "<lambda>") params body scope (cloFrom X.env.cells scope.names []) pm (.ref c') ctv) ⟨[], []⟩ = pure [])
    (tk : Takes ((cxOf CXg X.prog X.w X.K X.mg X.base Ng qg sg g cdg X.A X.stack s H Eg).tr pn xe) W) (hr : Room (k + 1) (X.A.deeper (envOfC qg sg s.heap.objs.size g cdg)))
    (hbody : ∀ (EE : XK) (s1 : Shared) (HZ : Hp), Room k ((X.A.deeper (envOfC qg sg s.heap.objs.size g cdg)).deeper (LamX.lamEnv X scope s1.heap.objs.size f c')) → PE (LamX.lamCx X (X.A.deeper (envOfC qg sg s.heap.objs.size g cdg)) (envOfC qg sg s.heap.objs.size g cdg :: X.stack) s1 HZ EE scope f c') body (tl EE))
    (hN : Ng[0]? = some a) (hv : Vis sg a) (hd : (a == ("__debug__" : Str)) = false) (hcd : (a == ("__classdict__" : Str)) = false) :
    PE ((cxOf CXg X.prog X.w X.K X.mg X.base Ng qg sg g cdg X.A X.stack s H Eg).tr pn xe) (.Call (.Name a p1) [] [] p2)
      (fun σZ HZ Q => σZ[0]? = some (some (.ref f)) ∧ HZ c' = some (LamX.CodeO c' (X.env.qual ++ "<lambda>")) ∧ tl (WE W σZ) σ HZ Q) := by
  constructor
  intro pinsZ sZ σZ HZ Q IZ ⟨h0, h1, h2⟩
  refine wpAny_Call_Name_kw (thn ((pe_var (pos := p1) (i := 0) hN hv hd hcd).run pinsZ sZ σZ HZ (fun v H1 => v = .ref f ∧ H1 = HZ) IZ ⟨.ref f, h0, rfl, rfl⟩) ?_)
  intro u s1 ⟨v, H1, I1, r1, e1, e2⟩
  cases e1
  cases e2
  cases r1
  have lf1 := I1.base.keep f _ lf nH nfr (fun z => nomatch (show f ∈ ([] : List Addr) from z))
  refine PySem.W.callWith_F0 ⟨_, _, _, _, lf1⟩ ?_
  obtain ⟨⟨oc, vs, t, o1, o2, o3⟩, _, _⟩ := I1.hok c' _ h1
  have run : codeAny (model X.prog X.w) (X.A.deeper (envOfC qg sg s.heap.objs.size g cdg)) (.call (.ref f) ⟨[], []⟩) (CR (L2.CX X.prog X.w) (envOfC qg sg s.heap.objs.size g cdg :: X.stack) X.prog X.w HZ s1 Q (WE W σZ)) s1 := by
    refine PySem.W.kla_callFunE hr.depth lf1 rfl L.co L.gen rfl ⟨c', oc, vs, t, rfl, o1, o2, o3⟩ ?_
    rw [bnd]
    refine wpAny_pure (wpAny_newFunctionEnv (fun y hy => (L.own y hy).2) (fun y hy => absurd hy (by simp)) ?_ L.kind)
    intro h₁ hns hsb
    refine ⟨I1.nolimit.fresh _ hsb, ?_⟩
    show codeAny _ _ (.expr body (LamX.lamEnv X scope s1.heap.objs.size f c')) _ _
    have kp : ∀ b o, s1.heap.get? b = some o → h₁.get? b = some o := fun b o e => hsb.extBut b o (Nat.ne_of_lt (Heap.lt_size e)) (Heap.get?_push_of_some _ e)
    have J := LamX.lam_start2 (E := WE W σZ) (f := f) (c' := c') (tk := s1.toks + ([] : List (Str × Value)).length) I L I1.env0 hr.hd I1.base hns kp
    refine PySem.W.kla_codeExpr (wpAny_mono ((hbody (WE W σZ) s1 HZ (hr.deeper _)).run [] _ _ HZ Q J h2) ?_ fun e s' hq => hq)
    intro v s' ⟨w', H', J', rv, q⟩
    exact ⟨w', H', J'.os, J'.bare, J'.base, J'.hok, rv, q⟩
  have ps := passAt tk σZ
  refine wpAny_call (codeAny_mono run fun r s' hq => ?_)
  match r, hq with
  | .error e, hq => exact ps pinsZ HZ s1 e s' I1 hq
  | .ok (.ret u), hq => exact I1.after hq
  | .ok .next, hq => exact hq.elim
  | .ok .brk, hq => exact hq.elim
  | .ok .cont, hq => exact hq.elim
section
variable {T : List Fd} {S : Tab} {d : Nat} {sc : Scope} {X : Cx} {E : SK}
theorem noArgs_ok {a : Arguments} (h : noArgs a = true) : a = ⟨[], [], none, [], [], none, []⟩ := by
  unfold noArgs at h
  split at h
  · rfl
  · cases h
theorem codeO_lst {c : Addr} {q : Str} (xs : List V) : LamX.CodeO c q ≠ .lst xs := fun z => by
  unfold LamX.CodeO at z
  cases z
theorem codeO_dK {c : Addr} {q : Str} (xs : List (Key × V)) : LamX.CodeO c q ≠ .dK xs := fun z => by
  unfold LamX.CodeO at z
  cases z
/-- the memory behind the making of a lambda -/
theorem MR.lam {K : PySem.W.Frag} {H H1 : Hp} {ρ : List Addr} {m : Mem} {q : Str} (M : MR K H ρ m) (eN : LamX.ExtN H H1) (T1 : LamX.TabS H1 (He.cT K ("law", none)).2 q) (hz : m[0]? = some (.tab q)) : MR K H1 ρ m ∧ Ext H ρ H1 ρ := by
  have ex : Ext H ρ H1 ρ := ⟨⟨[], by simp⟩, fun a o h nn nt => ⟨eN a o h nt, nn⟩⟩
  obtain ⟨ps, t1, t2, t3⟩ := T1
  have out : ∀ c, H1 c = some (LamX.CodeO c q) → c ∉ ρ := fun c hc hm => by
    obtain ⟨l, hl⟩ := List.mem_iff_getElem?.mp hm
    have hlt : l < m.length := by rw [M.len]; exact (List.getElem?_eq_some_iff.mp hl).1
    have r := M.ob l m[l] c (List.getElem?_eq_getElem hlt) hl
    cases e : m[l] with
    | lst xs =>
      rw [e] at r
      obtain ⟨vs, h1, _⟩ := r
      have := eN c _ h1 (fun _ z => by cases z)
      rw [hc] at this
      exact codeO_lst _ (Option.some.inj this)
    | dct xs =>
      rw [e] at r
      obtain ⟨vs, h1, _⟩ := r
      have := eN c _ h1 (fun _ z => by cases z)
      rw [hc] at this
      exact codeO_dK _ (Option.some.inj this)
    | ins _ _ => rw [e] at r; exact r.elim
    | tab _ =>
      rw [e] at r
      obtain ⟨rfl, _⟩ := r
      rw [t1] at hc
      exact LamX.codeO_ne _ (Option.some.inj hc).symm
  refine ⟨⟨M.len, M.nd, fun l o a h1 h2 => ?_⟩, ex⟩
  have r := M.ob l o a h1 h2
  cases o with
  | lst xs => obtain ⟨vs, q1, q2⟩ := r; exact ⟨vs, eN a _ q1 (fun _ z => by cases z), q2.ext ex⟩
  | dct xs => obtain ⟨vs, q1, q2⟩ := r; exact ⟨vs, eN a _ q1 (fun _ z => by cases z), q2.ext ex⟩
  | ins _ _ => exact r.elim
  | tab q' =>
    obtain ⟨rfl, _⟩ := r
    have l0 : 0 < ρ.length := by rw [← M.len]; exact (List.getElem?_eq_some_iff.mp hz).1
    obtain ⟨e0, _⟩ := M.ob 0 _ ρ[0] hz (List.getElem?_eq_getElem l0)
    have el : l = 0 := by
      obtain ⟨p1, q1⟩ := List.getElem?_eq_some_iff.mp h2
      exact (List.getElem_inj M.nd).mp (q1.trans e0.symm)
    subst el
    rw [hz] at h1
    cases h1
    exact ⟨rfl, ps, t1, t2, fun pos cv hc => by
      obtain ⟨c, e1, e2⟩ := t3 pos cv hc
      exact ⟨c, e1, e2, out c e2⟩⟩
theorem sound_lam (F : Fine T S d sc X E) {l : LamD} {q : Str} {b : CE} {y : Str} {p lpos pos : Pos} {params : Arguments} {body : Expr} {scope : Scope} (h : chkE S sc (.lam l q b) (.Call (.Name y p) [.Lambda params body scope lpos] [] pos) = true)
    (hbody : ∀ (n : Nat) (X' : Cx) (E' : SK), Fine T { S with lams := [] } n scope X' E' → PE X' body (TDE X'.K E' (denE (callN T n) b))) : PE X (.Call (.Name y p) [.Lambda params body scope lpos] [] pos) (TDE X.K E (denE (callN T d) (.lam l q b))) := by
  simp only [chkE, Bool.and_eq_true, decide_eq_true_eq] at h
  obtain ⟨⟨⟨⟨⟨⟨⟨rfl, h1⟩, h2⟩, h3⟩, rfl⟩, h4⟩, h5⟩, h6⟩ := h
  obtain ⟨n1, n2, _⟩ := nm_of h2
  have LF := F.lm (fun z => by rw [z] at h3; cases h3)
  obtain ⟨g, fd, pg, bg, sg, m1, FD, bn, fsc, ck⟩ := LF.of l h3
  obtain ⟨oc, od, dV, kV, doc, pm, an, cdv, ct, osl, rfl, lk, hcd, _, _⟩ := FD.ex
  cases noArgs_ok h4
  have L : LamX.LamS X.env.scope scope := by rw [F.sc]; exact LamX.lamS_by h5
  have hgl : Gl X l.x := by show X.env.scope.names.lookup _ = _; rw [F.sc]; exact glo_of h1
  constructor
  intro pins s σ H Q I ⟨ρ, env, m, er, mr, pp⟩
  rw [denE] at pp
  cases hq : tabAt S.lq m with
  | false => rw [hq] at pp; exact False.elim pp
  | true =>
  rw [hq, if_pos rfl] at pp
  obtain ⟨n, rfl, pp⟩ := probe F.tl d m pp
  rw [show n + 3 = (n + 1) + 2 from rfl, callN_down F.tl] at pp
  -- the table
  have hz : m[0]? = some (.tab S.lq) := by
    unfold tabAt at hq
    cases e : m[0]? with
    | none => rw [e] at hq; cases hq
    | some o =>
      rw [e] at hq
      cases o with
      | tab q' => cases of_decide_eq_true hq; rfl
      | _ => cases hq
  have l0 : 0 < ρ.length := by rw [← mr.len]; exact (List.getElem?_eq_some_iff.mp hz).1
  obtain ⟨e0, ps, t1, t2, t3⟩ := mr.ob 0 _ ρ[0] hz (List.getElem?_eq_getElem l0)
  rw [e0] at t1
  have Tb : LamX.Tabs [((He.cT X.K ("law", none)).2, X.env.qual ++ "<lambda>")] H := fun p hp => by
    rw [List.mem_singleton] at hp
    subst hp
    exact ⟨ps, t1, t2, fun pos cv hc => by
      obtain ⟨c, c1, c2, _⟩ := t3 pos cv hc
      rw [LF.q]
      exact ⟨c, c1, c2⟩⟩
  -- the callee's text
  unfold chkLam at ck
  split at ck
  rotate_left
  · cases ck
  rename_i a p1 p2 p3 y p4 nn h0 hs p5 p6 t j p7 p8
  simp only [Bool.and_eq_true, decide_eq_true_eq, Bool.not_eq_true'] at ck
  obtain ⟨⟨⟨⟨⟨⟨⟨⟨⟨⟨⟨⟨rfl, rfl⟩, rfl⟩, k1⟩, k2⟩, k3⟩, k4⟩, k5⟩, k6⟩, k7⟩, k8⟩, k9⟩, rfl⟩ := ck
  obtain ⟨u1, u2, _⟩ := nm_of k2
  obtain ⟨v1, v2, _⟩ := nm_of k3
  have emx : ∀ x ∈ S.cls, EmOk X.K X.mg x l.y (l.acc.contains x) := fun x hx => F.em _ _ _ (by
    have := List.all_eq_true.mp k7 x hx
    simpa using this)
  obtain ⟨cv, nmc⟩ : ∃ cv, NmC X.mg l.y cv := by
    cases q : S.cls with
    | nil =>
      have k5 : l.known = S.cls := k5
      rw [k5, q] at k6
      cases k6
    | cons x r =>
      obtain ⟨_, cv, _, k, _⟩ := emx x (by rw [q]; exact List.mem_cons_self ..)
      exact ⟨cv, k⟩
  refine wpAny_Call_Name_kw (ld_glob I hgl m1 ?_ n1)
  refine PySem.W.callWith_K (h₀ := X.base) I.ok.mod.kin FD.kp ?_ (by rfl) (by rfl)
  show wpAny _ _ (spliced ((false, eval (.Lambda ⟨[], [], none, [], [], none, []⟩ body scope lpos) X.env) :: backTo pos (starEach [] X.env))) _ _ s
  refine Calls.spliced_cons (LamX.lam_make2 I LF.tb LF.code (List.mem_singleton.mpr rfl) (fun p hp _ => by rw [List.mem_singleton] at hp; subst hp; rfl) Tb (by rfl) (L.has I.ok) fun f c' pm' ctv H1 s' I1 eN T1 hf hfn hfr hco => ?_)
  refine Calls.spliced_nil ⟨I1.kIn, ?_⟩
  have T1' : LamX.TabS H1 (He.cT X.K ("law", none)).2 S.lq := by rw [← LF.q]; exact T1 _ (List.mem_singleton.mpr rfl)
  obtain ⟨M1, ex1⟩ := mr.lam eN T1' hz
  have rc : codeAny (model X.prog X.w) X.A (.call (.ref g) ⟨[.ref f], []⟩) (CR C8.CX0 X.stack X.prog X.w H1 s' Q C8.E0) s' := by
    refine LamX.run_ofS (N := [l.a, l.n]) (ps := [l.a]) (us := [.ref f]) (vs := [.ref f]) lk hcd fsc F.room I1.env0 (bn s' [.ref f] I1.kIn rfl) (.cons rfl .nil) rfl fun hr' => ?_
    let Z : Cx := cxOf C8.CX0 X.prog X.w X.K X.mg X.base [l.a, l.n] l.x sg g cdv X.A X.stack s' H1 C8.E0
    have hnd : ([l.a, l.n] : List Str).Nodup := fsc.nd
    have FZ : Fine T { S with N := [l.a, l.n], lams := [] } (n + 2) sg Z Z0 := ⟨rfl, hnd, rfl, rfl, F.hg, hr', F.un, F.gk, F.cl, F.em, fun d' h => F.fn d' (by omega), TakesL.of rfl rfl takes_false, F.sy, F.tb, F.c0, F.xc, F.tf, fun h => absurd rfl h, F.tl⟩
    have hva : Vis sg l.a := vis_of k4
    have hvn : Vis sg l.n := .inl k8
    have hgy : Gl Z l.y := glo_of k1
    let tl : XK → TE := fun EE => TDE X.K (ekOf X.K X.mg EE) (denE (callN T (n + 1)) b)
    let ts : Addr → Value → Option Addr → TS := fun a cls dd D σ H => ∃ (ex : Exn) (C : Addr), ex.cls ∈ S.cls ∧ X.mg ex.cls = some (.ref C) ∧ cls = .ref C ∧ TDH X.K C dd ex 1 a (denH ex l.h) D σ H
    have act : ∀ (W : WX) (pn : List (Addr × Obj)) (xe : Value → Shared → Prop), Takes (Z.tr pn xe) W → PE (Z.tr pn xe) (.Call (.Name l.a p1) [] [] p2) (fun σZ HZ Q => σZ[0]? = some (some (.ref f)) ∧ HZ c' = some (LamX.CodeO c' (X.env.qual ++ "<lambda>")) ∧ tl (WE W σZ) σ HZ Q) := fun W pn xe tk =>
      lam_act (k := n + 1) (tl := tl) I1 L hf hfn hfr rfl tk hr' (fun EE s1 HZ hr2 => hbody (n + 1) _ _ (Fine.lam F scope _ _ s1 HZ EE f c' F.hg hr2)) rfl hva v1 v2
    refine ⟨_, pss_cons (ps_try_as (X := Z) (i := 1) (c := cv) (Wout := fun _ _ _ _ => False) (tb := fun W => tSeq (tDrop (fun σZ HZ Q => σZ[0]? = some (some (.ref f)) ∧ HZ c' = some (LamX.CodeO c' (X.env.qual ++ "<lambda>")) ∧ tl (WE W σZ) σ HZ Q)) tNext) (ts := ts)
      rfl rfl hnd rfl k8 ⟨hgy, nmc.1, nmc.2.1⟩ LamX.takes0 (fun W pn xe tk _ => pss_cons (ps_expr (act W pn xe tk) rfl) pss_nil)
      (fun a oe cls dd pn hz' hff => ⟨fun pins s σ H D I ⟨ex, C, hx, hm, e1, q⟩ => by
        subst e1
        exact (soundHs FZ rfl rfl hvn u1 u2 hx hm hz' hff l.h (h0 :: hs) k9).run pins s σ H D I q⟩)) (pss_cons (ps_ret pe_str) pss_nil), ?_⟩
    refine ⟨rfl, hco, ρ, env, m, er.ext ex1, M1, ?_⟩
    cases hr : denE (callN T (n + 1)) b env m with
    | stk => rw [hr] at pp; exact False.elim pp
    | ok v m1 =>
      rw [hr] at pp
      exact fun H' ρ' e M x _ => pp H' ρ' (ex1.trans e) M _ (.str _)
    | err z m1 =>
      rw [hr] at pp
      intro H' ρ' e M c od ⟨q1, q2⟩
      simp only [lamR] at pp
      split at pp
      · rename_i hk
        rw [Bool.and_eq_true] at hk
        have hx : z.cls ∈ S.cls := by
          have k5 : l.known = S.cls := k5
          rw [← k5]
          exact List.contains_iff_mem.mp hk.1
        obtain ⟨C, cv', hC, nm', g1, g2⟩ := emx z.cls hx
        cases nmc.uniq nm'
        rw [hC] at q1
        cases q1
        refine ⟨l.acc.contains z.cls, g2, fun ha a hn => ?_, fun ha => by rw [hk.2] at ha; cases ha⟩
        refine ⟨z, C, hx, hC, rfl, rfl, ρ', [none, none], m1, ⟨rfl, fun i v w => ?_⟩, M, q2, ?_⟩
        · match i, w with
          | 0, w => cases w
          | 1, w => cases w
          | i + 2, w => cases w
        · cases hdq : denH z l.h [none, none] m1 with
          | err e2 m2 => exact absurd hdq (denH_noerr _ _ _ _ _ _)
          | stk => rw [hdq] at pp; exact False.elim pp
          | ok q m2 =>
            rw [hdq] at pp
            obtain ⟨fl, env2⟩ := q
            cases fl with
            | ret v => exact fun H2 ρ2 e2 M2 x r => pp H2 ρ2 (ex1.trans (e.trans e2)) M2 x r
            | nx => exact False.elim pp
            | brk => exact False.elim pp
            | cont => exact False.elim pp
      · exact False.elim pp
  refine wpAny_call (codeAny_mono rc fun r s2 hq => ?_)
  match r, hq with
  | .error e, hq => exact (show False from hq).elim
  | .ok (.ret u), hq => exact I1.after hq
  | .ok .next, hq => exact hq.elim
  | .ok .brk, hq => exact hq.elim
  | .ok .cont, hq => exact hq.elim
end
end Ev

set_option maxHeartbeats 4000000
namespace Ev
open PySem PySem.Spec PyProof.Rows L2
set_option autoImplicit false

theorem room65 {k : Nat} {A : Around} (r : Room k A) : A.units + 65 < cLine := by have := r.un; omega
theorem bind_assoc' {α β γ : Type} (r : Res α) (f : α → Mem → Res β) (g : β → Mem → Res γ) : (r.bind f).bind g = r.bind fun a m => (f a m).bind g := by cases r <;> rfl
theorem rdd_okB {α β : Type} {K : PySem.W.Frag} {E : EK} {H : Hp} {ρ : List Addr} {m : Mem} {v : Vl} {f : PyData → Res α} {g : α → Mem → Res β} {k : β → Mem → Hp → List Addr → Prop} (p : Post K E H ρ ((rdd v m f).bind g) k) :
    ∃ x, rd m v = some x ∧ Post K E H ρ ((f x).bind g) k := by
  unfold rdd at p
  cases q : rd m v with
  | none => rw [q] at p; exact False.elim p
  | some x => rw [q] at p; exact ⟨x, rfl, p⟩
theorem bol_okB {β : Type} {K : PySem.W.Frag} {E : EK} {H : Hp} {ρ : List Addr} {m : Mem} {o : Option Bool} {g : Vl → Mem → Res β} {k : β → Mem → Hp → List Addr → Prop} (p : Post K E H ρ ((bol o m).bind g) k) :
    ∃ d, o = some d ∧ Post K E H ρ (g (.d (.bool d)) m) k := by
  cases o with
  | none => exact False.elim p
  | some d => exact ⟨d, rfl, p⟩
theorem ext0 (H : Hp) (ρ : List Addr) : Ext (fun _ => none) [] H ρ := ⟨⟨ρ, rfl⟩, fun a o z _ _ => by cases z⟩
abbrev eqR {α : Type} : PySem.W.Frag → Hp → List Addr → α → α → Prop := fun _ _ _ a b => a = b
theorem biName_mem (b : BI) : biName b ∈ bnames := by cases b <;> decide +kernel
theorem ty_mem {t : String} (h : tyOk t = true) : Str.ofString t ∈ bnames ∧ bootBuiltins (Str.ofString t) = some (.type t) ∧ Str.ofString t ≠ "__name__" ∧ (Str.ofString t == ("__debug__" : Str)) = false := by
  simp only [tyOk, Bool.or_eq_true, decide_eq_true_eq] at h
  rcases h with ((((h | h) | h) | h) | h) | h <;> subst h <;> exact ⟨by decide +kernel, by decide +kernel, by decide +kernel, by decide +kernel⟩
theorem vrs1 {K : PySem.W.Frag} {H : Hp} {ρ : List Addr} {u : Vl} {vs : List V} (h : VRs K H ρ [u] vs) : ∃ v, vs = [v] ∧ VR K H ρ u v := by
  cases h with
  | cons a b => cases b; exact ⟨_, rfl, a⟩
theorem VRs.append {K : PySem.W.Frag} {H : Hp} {ρ : List Addr} : ∀ {us ws : List Vl} {vs zs : List V}, VRs K H ρ us vs → VRs K H ρ ws zs → VRs K H ρ (us ++ ws) (vs ++ zs)
  | _, _, _, _, .nil, s => s
  | _, _, _, _, .cons h t, s => .cons h (VRs.append t s)
theorem VRs.of_d {K : PySem.W.Frag} {H : Hp} {ρ : List Addr} : ∀ {ds : List PyData} {vs : List V}, DRs K H ρ ds vs → VRs K H ρ (ds.map .d) vs
  | _, _, .nil => .nil
  | _, _, .cons h t => .cons h (VRs.of_d t)
theorem VRs.app_d {K : PySem.W.Frag} {H : Hp} {ρ : List Addr} {us : List Vl} {vs zs : List V} {ds : List PyData} (h : VRs K H ρ us vs) (q : DRs K H ρ ds zs) : VRs K H ρ (us ++ ds.map .d) (vs ++ zs) := h.append (.of_d q)
theorem PK.imp {X : Cx} {kws : List Keyword} {t t' : TA} (h : PK X kws t) (w : ∀ σ H Q, t' σ H Q → t σ H Q) : PK X kws t' := ⟨fun pos pins s σ H Q I q => h.run pos pins s σ H Q I (w _ _ _ q)⟩
theorem kw_facts {ks : List Str} (pos : Pos) (env : PySem.Env) : ∀ {kws : List Keyword}, kws.map (·.arg) = ks.map some →
    (backToKw pos (keywordEach kws env)).all (·.1.isSome) = true ∧ (backToKw pos (keywordEach kws env)).filterMap (·.1) = ks ∧ (backToKw pos (keywordEach kws env)).any (·.1.isNone) = false := by
  induction ks with
  | nil =>
    intro kws h
    cases kws with
    | nil => exact ⟨rfl, rfl, rfl⟩
    | cons _ _ => cases h
  | cons k ks ih =>
    intro kws h
    cases kws with
    | nil => cases h
    | cons w kws =>
      obtain ⟨nm, e, kp⟩ := w
      rw [List.map_cons, List.map_cons] at h
      injection h with h1 h2
      cases (show nm = some k from h1)
      obtain ⟨q1, q2, q3⟩ := ih h2
      refine ⟨?_, ?_, ?_⟩
      · simpa [keywordEach, backToKw] using q1
      · simpa [keywordEach, backToKw] using q2
      · simpa [keywordEach, backToKw] using q3
theorem marks_of {o : CmpOp} {y : Expr} (h0 : (notMark o || plainX y) = true) : behindInMarks o y = false := by
  rcases Bool.or_eq_true_iff.mp h0 with h0 | h0
  · cases o <;> first | exact nomark _ | cases h0
  · cases y <;> first | rfl | cases h0
theorem bi_call {X : Cx} (hc : X.calm = true) (sy : SysD X.base) (hg : X.A.guards = some []) (hu : X.A.units + 64 < cLine) (b : BI) {e : Expr} {es : List Expr} {p pos : Pos} {t : TA} (hgl : Gl X (biName b)) (hm : X.mg (biName b) = none) (ha : PA X (e :: es) t)
    (he : starEach (e :: es) X.env = (false, eval e X.env) :: starEach es X.env) (hpl : (backTo pos (starEach es X.env)).any (·.1) = false) : PE X (.Call (.Name (biName b) p) (e :: es) [] pos) (tCB (rBi X.K b) t) := by
  have q := bi_P sy hc hg hu b
  cases b <;> first
    | exact pe_callB q hgl hm (by decide +kernel) ha (by decide +kernel) (by decide +kernel) he hpl
    | exact pe_callTy q hgl hm (by decide +kernel) ha (by decide +kernel) (by decide +kernel) he hpl

theorem seq_ofE {K : PySem.W.Frag} {H : Hp} {ρ : List Addr} {x : PyData} {ds : List PyData} {v : V} (h : RDt K H ρ x v) (q : seqOf x = some ds) : ∃ a vs, v = .ref a ∧ (SqL K H a vs ∨ SqT K H a vs) ∧ DRs K H ρ ds vs := by
  cases x with
  | list xs => cases q; obtain ⟨a, vs, h1, h2, h3⟩ := h; exact ⟨a, vs, h1, .inl h2, h3⟩
  | tuple xs => cases q; obtain ⟨a, vs, h1, h2, h3⟩ := rdt_tup h; exact ⟨a, vs, h1, .inr h2, h3⟩
  | _ => cases q
theorem rg_drs {K : PySem.W.Frag} {H : Hp} {ρ : List Addr} (a b : Int) : DRs K H ρ (rngL a b) (rgV a b) := by
  unfold rngL rgV
  induction List.range (b - a).toNat with
  | nil => exact .nil
  | cons k ks ih => rw [List.map_cons, List.map_cons]; exact .cons (.int _) ih
theorem DRs.erase {K : PySem.W.Frag} {H : Hp} {ρ : List Addr} : ∀ {ds : List PyData} {vs : List V} (i : Nat), DRs K H ρ ds vs → DRs K H ρ (ds.eraseIdx i) (vs.eraseIdx i)
  | _, _, _, .nil => .nil
  | _, _, 0, .cons _ t => t
  | _, _, i + 1, .cons r t => .cons r (DRs.erase i t)
theorem pop_ok {K : PySem.W.Frag} {E : EK} {H : Hp} {ρ : List Addr} {m : Mem} {o v : Vl} {x y : V} {Q : VK} (M : MR K H ρ m) (ro : VR K H ρ o x) (rv : VR K H ρ v y) (p : Post K E H ρ (popR o v m) fun v _ H' ρ' => ∀ x, VR K H' ρ' v x → Q x H') : rPopAt x [y] H Q := by
  unfold popR at p
  split at p
  · rename_i l k
    obtain ⟨A, rfl, ha⟩ := ro
    cases rv
    cases q : m[l]? with
    | none => simp only [q] at p; exact False.elim p
    | some ob =>
      have rr := M.ob l ob A q ha
      cases ob with
      | lst xs =>
        simp only [q] at p
        obtain ⟨vs, q1, q2⟩ := rr
        cases hj : ixN xs.length k with
        | none => simp only [hj] at p; exact False.elim p
        | some j =>
          simp only [hj] at p
          cases hx : xs[j]? with
          | none => simp only [hx] at p; exact False.elim p
          | some dd =>
            simp only [hx] at p
            split at p
            · rename_i hs
              simp only [smallI, Bool.and_eq_true, decide_eq_true_eq] at hs
              obtain ⟨u, hu, ru⟩ := q2.get hx
              have exu : Ext H ρ (upd H A (.lst (vs.eraseIdx j))) ρ := ⟨⟨[], by simp⟩, fun b u w nb _ => ⟨by
                have ne : b ≠ A := fun e => nb (by rw [e]; exact List.mem_of_getElem? ha)
                rw [upd_ne ne]
                exact w, nb⟩⟩
              obtain ⟨M3, e3⟩ := M.put (o := .lst (vs.eraseIdx j)) (ob := .lst (xs.eraseIdx j)) ha ⟨_, upd_same, (q2.ext exu).erase j⟩
              refine ⟨A, vs, k, j, u, rfl, rfl, q1, hs.1, hs.2, ?_, hu, p _ _ e3 M3 u (DR.ext exu ru)⟩
              rw [← q2.length]
              exact (ixN_seq hj).1
            · exact False.elim p
      | dct _ => simp only [q] at p; exact False.elim p
      | ins _ _ => simp only [q] at p; exact False.elim p
      | tab _ => simp only [q] at p; exact False.elim p
  · exact False.elim p
theorem set_of_I {S : Tab} {sc : Scope} : ∀ (c : CI) (e : Expr), chkI S sc c e = true → ∀ (env : PySem.Env) (z : Value), foldedSetIterable e env z = pure z
  | .e c, e, h, env, z => by
    simp only [chkI, Bool.and_eq_true] at h
    exact set_plain h.2 env z
  | .rng1 c, e, h, env, z => by cases e <;> first | rfl | simp [chkI] at h
  | .rng2 a b, e, h, env, z => by cases e <;> first | rfl | simp [chkI] at h
  | .zip es, e, h, env, z => by cases e <;> first | rfl | simp [chkI] at h
  | .enum c, e, h, env, z => by cases e <;> first | rfl | simp [chkI] at h
/-- a key, as the layer has it -/
def keyOf : PyData → Key
  | .int i => .inl i
  | .str x => .inr x
  | _ => .inl 0
theorem kD_keyOf {k : PyData} (h : okKey k = true) : kD (keyOf k) = k := by cases k <;> first | rfl | cases h
theorem eqKey_of {a b : Key} : eqKey (kD a) (kD b) = decide (a = b) := by
  cases a with
  | inl i => cases b with
    | inl j => rw [key_ll]; rfl
    | inr y => rw [key_lr]; rfl
  | inr x => cases b with
    | inl j => rw [key_rl]; rfl
    | inr y => rw [key_rr]; show (x == y) = decide (x = y); rw [Bool.eq_iff_iff]; simp
section
variable {K : PySem.W.Frag} {H : Hp} {ρ : List Addr}
theorem DKs.any (k : Key) : ∀ {ps : List (PyData × PyData)} {ks : List (Key × V)}, DKs K H ρ ps ks → (ps.any fun p => eqKey p.1 (kD k)) = ks.any fun kv => decide (kv.1 = k)
  | _, _, .nil => rfl
  | _, _, .cons a b => by rw [List.any_cons, List.any_cons, DKs.any k b, eqKey_of]
theorem DKs.upd (k : Key) {d : PyData} {v : V} (r : DR K H ρ d v) : ∀ {ps : List (PyData × PyData)} {ks : List (Key × V)}, DKs K H ρ ps ks →
    DKs K H ρ (ps.map fun p => if eqKey p.1 (kD k) = true then (p.1, d) else p) (ks.map fun kv => if kv.1 = k then (kv.1, v) else kv)
  | _, _, .nil => .nil
  | _, _, .cons (k := k') a b => by
    have ih := DKs.upd k r b
    simp only [List.map_cons, eqKey_of, decide_eq_true_eq]
    split
    · exact .cons r ih
    · exact .cons a ih
theorem DKs.app {ps' : List (PyData × PyData)} {ks' : List (Key × V)} (h' : DKs K H ρ ps' ks') : ∀ {ps : List (PyData × PyData)} {ks : List (Key × V)}, DKs K H ρ ps ks → DKs K H ρ (ps ++ ps') (ks ++ ks')
  | _, _, .nil => h'
  | _, _, .cons a b => .cons a (DKs.app h' b)
theorem put_rel {ps : List (PyData × PyData)} {ks : List (Key × V)} (k : Key) {d : PyData} {v : V} (h : DKs K H ρ ps ks) (r : DR K H ρ d v) : DKs K H ρ (putD ps (kD k) d) (putK ks k v) := by
  unfold putD putK
  rw [h.any k]
  split
  · exact h.upd k r
  · exact DKs.app (.cons r .nil) h
end
theorem disp_rel {K : PySem.W.Frag} {H : Hp} {ρ : List Addr} : ∀ {ks ds : List PyData} {acc kvs : List (PyData × PyData)} {acc' : List (Key × V)} {vs : List V}, DKs K H ρ acc acc' → DRs K H ρ ds vs → dispD ks ds acc = some kvs →
    DKs K H ρ kvs (mergeK acc' ((ks.map keyOf).zip vs)) ∧ ks.length = vs.length
  | [], [], _, _, _, _, h, .nil, e => by cases e; exact ⟨h, rfl⟩
  | k :: ks, d :: ds, acc, kvs, acc', _, h, .cons a b, e => by
    unfold dispD at e
    split at e
    · rename_i hk
      have h2 := put_rel (keyOf k) h a
      rw [kD_keyOf hk] at h2
      obtain ⟨q1, q2⟩ := disp_rel h2 b e
      exact ⟨q1, congrArg Nat.succ q2⟩
    · cases e
  | [], _ :: _, _, _, _, _, _, _, e => by cases e
  | _ :: _, [], _, _, _, _, _, _, e => by cases e
def trsOf (K : PySem.W.Frag) (E : SK) (call : CallT) : List PyData → CEs → List (TE × TE)
  | k :: ks, .cons e r => (tC (kV (keyOf k)), TDE K E (denE call e)) :: trsOf K E call ks r
  | _, _ => []
theorem pairs_run {K : PySem.W.Frag} {E : SK} {call : CallT} {σ : St} {env : Sl} {γ : Type} {k : γ → Mem → Hp → List Addr → Prop} : ∀ (ks : List PyData) (c : CEs) {H : Hp} {ρ : List Addr} {m : Mem} {g : List Vl → Mem → Res γ} {Q : List (V × V) → Hp → Prop}, ks.length = lenE c → EnvR K H ρ env σ → MR K H ρ m →
    Post K (E σ) H ρ ((denEs call c env m).bind g) k →
    (∀ us vs H2 ρ2 m2, Ext H ρ H2 ρ2 → EnvR K H2 ρ2 env σ → MR K H2 ρ2 m2 → VRs K H2 ρ2 us vs → ks.length = vs.length → Post K (E σ) H2 ρ2 (g us m2) k → Q (((ks.map keyOf).zip vs).map fun kv => (kV kv.1, kv.2)) H2) → tPairs (trsOf K E call ks c) σ H Q
  | [], .nil, H, ρ, m, g, Q, _, er, mr, p, hQ => hQ [] [] H ρ m (.refl _ _) er mr .nil rfl p
  | k' :: ks, .cons e r, H, ρ, m, g, Q, hl, er, mr, p, hQ => by
    rw [denEs, bind_assoc'] at p
    show TDE K E (denE call e) σ H _
    refine (run2 er mr p).mono fun x H1 ⟨ρ1, m1, v1, e1, er1, mr1, r1, p1⟩ => ?_
    rw [bind_assoc'] at p1
    refine pairs_run ks r (by simpa [lenE] using hl) er1 mr1 p1 fun us vs H2 ρ2 m2 e2 er2 mr2 r2 h2 p2 => ?_
    exact hQ (v1 :: us) (x :: vs) H2 ρ2 m2 (e1.trans e2) er2 mr2 (.cons (r1.ext e2) r2) (congrArg Nat.succ h2) p2
  | [], .cons _ _, _, _, _, _, _, hl, _, _, _, _ => by simp [lenE] at hl
  | _ :: _, .nil, _, _, _, _, _, hl, _, _, _, _ => by simp [lenE] at hl
theorem pe_const {X : Cx} {k : PyData} {c : Const} {j : Nat} {pos : Pos} (h : cOk k c = true) (hk : okKey k = true) : PE X (.Constant c j pos) (tC (kV (keyOf k))) := by
  cases k with
  | int i => cases c <;> simp [cOk] at h; subst h; exact pe_int
  | str x => cases c <;> simp [cOk] at h; subst h; exact pe_str
  | _ => cases hk
theorem lenEs (call : CallT) : ∀ (c : CEs) (env : Sl) (m : Mem), match denEs call c env m with
    | .ok us _ => us.length = lenE c
    | _ => True
  | .nil, _, _ => rfl
  | .cons e r, env, m => by
    rw [denEs]
    cases denE call e env m with
    | ok v m1 =>
      have ih := lenEs call r env m1
      simp only [Res.bind]
      cases q : denEs call r env m1 with
      | ok us m2 => rw [q] at ih; simpa [lenE] using ih
      | err z m2 => trivial
      | stk => trivial
    | err z m1 => trivial
    | stk => trivial
theorem len_bind {α : Type} {call : CallT} {c : CEs} {env : Sl} {m : Mem} {g : List Vl → Mem → Res α} : (denEs call c env m).bind g = (denEs call c env m).bind fun us m2 => if us.length = lenE c then g us m2 else .stk := by
  have hl := lenEs call c env m
  cases q : denEs call c env m with
  | ok us m2 => rw [q] at hl; simp only [Res.bind]; rw [if_pos hl]
  | err z m2 => rfl
  | stk => rfl
theorem itsOf_val (v : Vl) (m : Mem) : (∃ its, itsOf v m = .ok its m) ∨ itsOf v m = .stk := by
  cases v with
  | d x => cases x <;> first | exact .inl ⟨_, rfl⟩ | exact .inr rfl
  | loc l =>
    unfold itsOf
    cases q : m[l]? with
    | none => exact .inr (by simp only [q])
    | some o =>
      cases o with
      | lst xs => exact .inl ⟨⟨xs, [(l, xs)]⟩, by simp only [q]⟩
      | dct _ => exact .inr (by simp only [q])
      | ins _ _ => exact .inr (by simp only [q])
      | tab _ => exact .inr (by simp only [q])
theorem itsAll_val : ∀ (vs : List Vl) (m : Mem), (∃ is, itsAll vs m = .ok is m) ∨ itsAll vs m = .stk
  | [], m => .inl ⟨_, rfl⟩
  | v :: r, m => by
    unfold itsAll
    rcases itsOf_val v m with ⟨i, hi⟩ | hi
    · rw [hi]
      simp only [Res.bind]
      rcases itsAll_val r m with ⟨is, hs⟩ | hs
      · rw [hs]; exact .inl ⟨_, rfl⟩
      · rw [hs]; exact .inr rfl
    · rw [hi]; exact .inr rfl
theorem its_row {K : PySem.W.Frag} {H : Hp} {ρ : List Addr} {m : Mem} {v : Vl} {x : V} {its : Its} (M : MR K H ρ m) (r : VR K H ρ v x) (h : itsOf v m = .ok its m) : ∃ t a, x = .ref a ∧ RowR K H ρ its.src t a its.items ∧ ∃ xs, SqB t K H a xs := by
  cases v with
  | d dd =>
    cases dd with
    | list ds =>
      cases h
      cases r with
      | lst q hs => exact ⟨false, _, rfl, .inl ⟨rfl, _, hs, q⟩, _, Or.elim q (fun q => .inl q.1) WL.sq⟩
    | tuple ds =>
      cases h
      cases r with
      | tup q hs => exact ⟨true, _, rfl, .inr (.inl ⟨rfl, _, hs, q⟩), _, Or.elim q (fun q => .inl q.1) WT.sq⟩
    | _ => cases h
  | loc l =>
    obtain ⟨a, rfl, ha⟩ := r
    unfold itsOf at h
    cases q : m[l]? with
    | none => simp only [q] at h; cases h
    | some o =>
      simp only [q] at h
      have r := M.ob l o a q ha
      cases o with
      | lst xs =>
        cases h
        obtain ⟨vs, r1, r2⟩ := r
        exact ⟨false, a, rfl, .inr (.inr ⟨rfl, l, List.mem_singleton.mpr rfl, ha⟩), vs, .inl (.inl r1)⟩
      | dct _ => cases h
      | ins _ _ => cases h
      | tab _ => cases h
theorem RowsR.mono {K : PySem.W.Frag} {H : Hp} {ρ : List Addr} {src src' : List (Nat × List PyData)} (k : ∀ p ∈ src, p ∈ src') {rows : List (Bool × Addr)} {xss : List (List PyData)} (h : RowsR K H ρ src rows xss) : RowsR K H ρ src' rows xss := by
  induction h with
  | nil => exact .nil
  | cons a b ih => exact .cons (a.mono k) ih
theorem itsAll_rows {K : PySem.W.Frag} {H : Hp} {ρ : List Addr} {m : Mem} (M : MR K H ρ m) : ∀ {us : List Vl} {vs : List V} {is : List Its}, VRs K H ρ us vs → itsAll us m = .ok is m → ∃ rows : List (Bool × Addr), vs = rows.map (fun r => V.ref r.2) ∧ RowsR K H ρ (is.map Its.src).flatten rows (is.map Its.items) ∧ ∀ r ∈ rows, ∃ xs, SqB r.1 K H r.2 xs
  | [], _, is, .nil, h => by cases h; exact ⟨[], rfl, .nil, fun r hr => by cases hr⟩
  | u :: us, _, is, .cons r rr, h => by
    unfold itsAll at h
    rcases itsOf_val u m with ⟨i, hi⟩ | hi
    · rw [hi] at h
      simp only [Res.bind] at h
      rcases itsAll_val us m with ⟨is', hs⟩ | hs
      · rw [hs] at h
        cases h
        obtain ⟨t, a, e1, q1, xs, q2⟩ := its_row M r hi
        obtain ⟨rows, e2, q3, q4⟩ := itsAll_rows M rr hs
        refine ⟨(t, a) :: rows, by rw [e1, e2]; rfl, .cons (q1.mono fun p hp => ?_) (q3.mono fun p hp => ?_), fun q hq => ?_⟩
        · rw [List.map_cons, List.flatten_cons]; exact List.mem_append_left _ hp
        · rw [List.map_cons, List.flatten_cons]; exact List.mem_append_right _ hp
        · rcases List.mem_cons.mp hq with rfl | hq
          · exact ⟨xs, q2⟩
          · exact q4 q hq
      · rw [hs] at h; cases h
    · rw [hi] at h; cases h
theorem keys_len : ∀ (ks : List PyData) (keys : List (Option Expr)), chkKs ks keys = true → keys.all (·.isSome) = true ∧ keys.length = ks.length
  | [], keys, h => by
    cases keys with
    | nil => exact ⟨rfl, rfl⟩
    | cons _ _ => simp [chkKs] at h
  | k :: ks, keys, h => by
    simp only [chkKs] at h
    split at h
    · simp only [Bool.and_eq_true] at h
      obtain ⟨h1, h2⟩ := keys_len ks _ h.2
      exact ⟨by simpa using h1, by simp [h2]⟩
    · cases h
theorem vals_len {S : Tab} : ∀ (c : CEs) (es : List Expr) (sc : Scope), chkEs S sc c es = true → es.length = lenE c
  | .nil, es, sc, h => by
    cases es with
    | nil => rfl
    | cons _ _ => simp [chkEs] at h
  | .cons c r, es, sc, h => by
    cases es with
    | nil => simp [chkEs] at h
    | cons e es =>
      simp only [chkEs, Bool.and_eq_true] at h
      simp [lenE, vals_len r es sc h.2]
section
variable {T : List Fd}
mutual
theorem soundE : ∀ (c : CE) {S : Tab} {d : Nat} (e : Expr) (sc : Scope), chkE S sc c e = true → ∀ (X : Cx) (E : SK), Fine T S d sc X E → PE X e (TDE X.K E (denE (callN T d) c))
  | .var i, S, d, e, sc, h, X, E, F => by
    cases e with
    | Name x pos =>
      simp only [chkE, Bool.and_eq_true, decide_eq_true_eq] at h
      obtain ⟨⟨h1, h2⟩, h3⟩ := h
      obtain ⟨n1, n2, _⟩ := nm_of h3
      refine PE.imp (pe_var (i := i) (by rw [F.N]; exact h1) (by rw [F.sc]; exact vis_of h2) n1 n2) fun σ H Q ⟨ρ, env, m, er, mr, p⟩ => ?_
      rw [denE] at p
      cases q : env[i]? with
      | none => simp only [q] at p; exact False.elim p
      | some o =>
        cases o with
        | none => simp only [q] at p; exact False.elim p
        | some v =>
          simp only [q] at p
          obtain ⟨x, hx, r⟩ := er.at_ i v q
          exact ⟨x, hx, ok_now mr p x r⟩
    | _ => simp [chkE] at h
  | .cst dd, S, d, e, sc, h, X, E, F => by
    cases e with
    | Constant cc k pos =>
      simp only [chkE] at h
      have go : ∀ {v : V}, PE X (.Constant cc k pos) (tC v) → DR X.K (fun _ => none) [] dd v → PE X (.Constant cc k pos) (TDE X.K E (denE (callN T d) (.cst dd))) := fun {v} pe dr =>
        PE.imp pe fun σ H Q ⟨ρ, env, m, er, mr, p⟩ => by
          rw [denE] at p
          exact ok_now mr p v (DR.ext (ext0 _ _) dr)
      cases dd with
      | none => cases cc <;> simp [cOk] at h; exact go pe_non .non
      | bool b => cases cc <;> simp [cOk] at h; subst h; exact go pe_bl (.bl _)
      | int i => cases cc <;> simp [cOk] at h; subst h; exact go pe_int (.int _)
      | str x => cases cc <;> simp [cOk] at h; subst h; exact go pe_str (.str _)
      | _ => simp [cOk] at h
    | _ => simp [chkE] at h
  | .gk x dd, S, d, e, sc, h, X, E, F => by
    cases e with
    | Name y pos =>
      simp only [chkE, Bool.and_eq_true, decide_eq_true_eq, List.any_eq_true] at h
      obtain ⟨⟨⟨rfl, h2⟩, h3⟩, ⟨⟨z, dz⟩, h4, h5, h6⟩⟩ := h
      obtain ⟨n1, n2, _⟩ := nm_of h3
      simp only at h5 h6
      subst h5
      cases eqD_ok _ _ h6
      obtain ⟨u, v, g1, g2, g3⟩ := F.gk _ _ h4
      refine PE.imp (pe_glob (by show X.env.scope.names.lookup _ = _; rw [F.sc]; exact glo_of h2) g1 g2 n1) fun σ H Q ⟨ρ, env, m, er, mr, p⟩ => ?_
      rw [denE] at p
      exact ok_now mr p v (DR.ext (ext0 _ _) g3)
    | _ => simp [chkE] at h
  | .bin o a b, S, d, e, sc, h, X, E, F => by
    cases e with
    | BinOp x o' y pos =>
      simp only [chkE, Bool.and_eq_true, decide_eq_true_eq] at h
      obtain ⟨⟨rfl, h1⟩, h2⟩ := h
      refine PE.imp (pe_op (op_binP o) (soundE a x sc h1 X E F) (soundE b y sc h2 X E F)) fun σ H Q ⟨ρ, env, m, er, mr, p⟩ => ?_
      rw [denE] at p
      refine (run2 er mr p).mono fun x H1 ⟨ρ1, m1, v1, e1, er1, mr1, r1, p1⟩ => (run2 er1 mr1 p1).mono fun y H2 ⟨ρ2, m2, v2, e2, er2, mr2, r2, p2⟩ => ?_
      obtain ⟨d1, q1, p2⟩ := rdd_ok p2
      obtain ⟨d2, q2, p2⟩ := rdd_ok p2
      obtain ⟨dd, q3, p2⟩ := dat_ok p2
      exact ⟨ρ2, d1, d2, dd, mr2.own, rd_ok mr2 (r1.ext e2) q1, rd_ok mr2 r2 q2, q3, out_of mr2 p2⟩
    | _ => simp [chkE] at h
  | .neg a, S, d, e, sc, h, X, E, F => by
    cases e with
    | UnaryOp o x pos =>
      cases o with
      | USub =>
        simp only [chkE] at h
        refine PE.imp (pe_un un_neg (soundE a x sc h X E F)) fun σ H Q ⟨ρ, env, m, er, mr, p⟩ => ?_
        rw [denE] at p
        refine (run2 er mr p).mono fun x H1 ⟨ρ1, m1, v1, e1, er1, mr1, r1, p1⟩ => ?_
        cases v1 with
        | loc l => exact False.elim p1
        | d dd =>
          cases dd with
          | int i => cases r1; exact ⟨i, rfl, ok_now mr1 p1 _ (.int _)⟩
          | _ => exact False.elim p1
      | _ => simp [chkE] at h
    | _ => simp [chkE] at h
  | .not_ a, S, d, e, sc, h, X, E, F => by
    cases e with
    | UnaryOp o x pos =>
      cases o with
      | Not =>
        simp only [chkE] at h
        refine PE.imp (pe_not (soundE a x sc h X E F)) fun σ H Q ⟨ρ, env, m, er, mr, p⟩ => ?_
        rw [denE] at p
        refine (run2 er mr p).mono fun x H1 ⟨ρ1, m1, v1, e1, er1, mr1, r1, p1⟩ => ?_
        cases v1 with
        | loc l => exact False.elim p1
        | d dd =>
          cases dd with
          | bool i => cases r1; exact ⟨i, rfl, ok_now mr1 p1 _ (.bl _)⟩
          | _ => exact False.elim p1
      | _ => simp [chkE] at h
    | _ => simp [chkE] at h
  | .and_ es, S, d, e, sc, h, X, E, F => by
    cases e with
    | BoolOp o xs pos =>
      cases o with
      | And =>
        simp only [chkE] at h
        refine PE.imp (soundAnd es xs pos sc h X E F) fun σ H Q ⟨ρ, env, m, er, mr, p⟩ => ⟨ρ, env, m, er, mr, by rw [denE] at p; exact p⟩
      | Or => simp [chkE] at h
    | _ => simp [chkE] at h
  | .or_ es, S, d, e, sc, h, X, E, F => by
    cases e with
    | BoolOp o xs pos =>
      cases o with
      | Or =>
        simp only [chkE] at h
        refine PE.imp (soundOr es xs pos sc h X E F) fun σ H Q ⟨ρ, env, m, er, mr, p⟩ => ⟨ρ, env, m, er, mr, by rw [denE] at p; exact p⟩
      | And => simp [chkE] at h
    | _ => simp [chkE] at h
  | .cmp o a b, S, d, e, sc, h, X, E, F => by
    cases e with
    | Compare x os ys pos =>
      match os, ys, h with
      | [o'], [y], h =>
        simp only [chkE, Bool.and_eq_true, decide_eq_true_eq] at h
        obtain ⟨⟨⟨rfl, h0⟩, h1⟩, h2⟩ := h
        have hm := marks_of h0
        refine PE.imp (pe_cmpR (op_cmpP (room65 F.room) F.sy o) (soundE a x sc h1 X E F) (soundE b y sc h2 X E F) hm) fun σ H Q ⟨ρ, env, m, er, mr, p⟩ => ?_
        rw [denE] at p
        refine (run2 er mr p).mono fun x H1 ⟨ρ1, m1, v1, e1, er1, mr1, r1, p1⟩ => (run2 er1 mr1 p1).mono fun y H2 ⟨ρ2, m2, v2, e2, er2, mr2, r2, p2⟩ => ?_
        obtain ⟨d1, q1, p2⟩ := rdd_ok p2
        obtain ⟨d2, q2, p2⟩ := rdd_ok p2
        obtain ⟨dd, q3, p2⟩ := bol_ok p2
        exact ⟨ρ2, d1, d2, dd, mr2.own, rd_ok mr2 (r1.ext e2) q1, rd_ok mr2 r2 q2, q3, ok_now mr2 p2 _ (.bl _)⟩
      | [], _, h => simp [chkE] at h
      | [_], [], h => simp [chkE] at h
      | [_], _ :: _ :: _, h => simp [chkE] at h
      | _ :: _ :: _, _, h => simp [chkE] at h
    | _ => simp [chkE] at h
  | .cmp2 o1 o2 a b c, S, d, e, sc, h, X, E, F => by
    cases e with
    | Compare x os ys pos =>
      match os, ys, h with
      | [p1, p2], [y, z], h =>
        simp only [chkE, Bool.and_eq_true, decide_eq_true_eq] at h
        obtain ⟨⟨⟨⟨⟨⟨rfl, rfl⟩, h0⟩, h00⟩, h1⟩, h2⟩, h3⟩ := h
        have hm : lastMarks [o1, o2] [y, z] = false := by show behindInMarks o2 z = false; cases o2 <;> first | exact nomark _ | cases h00
        refine PE.imp (pe_chain (op_cmpP (room65 F.room) F.sy o1) (op_cmpP (room65 F.room) F.sy o2) (soundE a x sc h1 X E F) (soundE b y sc h2 X E F) (soundE c z sc h3 X E F) hm) fun σ H Q ⟨ρ, env, m, er, mr, p⟩ => ?_
        rw [denE] at p
        refine (run2 er mr p).mono fun x H1 ⟨ρ1, m1, v1, e1, er1, mr1, r1, p1⟩ => (run2 er1 mr1 p1).mono fun y H2 ⟨ρ2, m2, v2, e2, er2, mr2, r2, p2⟩ => ?_
        obtain ⟨d1, q1, p2⟩ := rdd_ok p2
        obtain ⟨d2, q2, p2⟩ := rdd_ok p2
        cases q3 : cmpP o1 d1 d2 with
        | none => simp only [q3] at p2; exact False.elim p2
        | some k =>
          simp only [q3] at p2
          refine ⟨ρ2, d1, d2, k, mr2.own, rd_ok mr2 (r1.ext e2) q1, rd_ok mr2 r2 q2, q3, k, rfl, ?_⟩
          cases k with
          | false => exact ok_now mr2 p2 _ (.bl _)
          | true =>
            refine (run2 er2 mr2 p2).mono fun w H3 ⟨ρ3, m3, v3, e3, er3, mr3, r3, p3⟩ => ?_
            obtain ⟨d3, q4, p3⟩ := rdd_ok p3
            obtain ⟨d4, q5, p3⟩ := rdd_ok p3
            obtain ⟨dd, q6, p3⟩ := bol_ok p3
            exact ⟨ρ3, d3, d4, dd, mr3.own, rd_ok mr3 (r2.ext e3) q4, rd_ok mr3 r3 q5, q6, ok_now mr3 p3 _ (.bl _)⟩
      | [], _, h => simp [chkE] at h
      | [_], _, h => simp [chkE] at h
      | [_, _], [], h => simp [chkE] at h
      | [_, _], [_], h => simp [chkE] at h
      | [_, _], _ :: _ :: _ :: _, h => simp [chkE] at h
      | _ :: _ :: _ :: _, _, h => simp [chkE] at h
    | _ => simp [chkE] at h
  | .ifx c a b, S, d, e, sc, h, X, E, F => by
    cases e with
    | IfExp t x y pos =>
      simp only [chkE, Bool.and_eq_true] at h
      obtain ⟨⟨h1, h2⟩, h3⟩ := h
      refine PE.imp (pe_ifExp (soundT c t sc h1 X E F) (soundE a x sc h2 X E F) (soundE b y sc h3 X E F)) fun σ H Q ⟨ρ, env, m, er, mr, p⟩ => ?_
      rw [denE] at p
      refine (run2 (R := eqR) er mr p).mono fun b' H1 ⟨ρ1, m1, v1, e1, er1, mr1, r1, p1⟩ => ?_
      cases r1
      cases b' with
      | true => rw [if_pos rfl]; exact run1 er1 mr1 p1
      | false => rw [if_neg Bool.false_ne_true]; exact run1 er1 mr1 p1
    | _ => simp [chkE] at h
  | .tup es, S, d, e, sc, h, X, E, F => by
    cases e with
    | Tuple xs k pos =>
      simp only [chkE] at h
      refine PE.imp (pe_tup (soundEs es xs sc h X E F)) fun σ H Q ⟨ρ, env, m, er, mr, p⟩ => ?_
      rw [denE] at p
      refine (run2 er mr p).mono fun vs H1 ⟨ρ1, m1, us, e1, er1, mr1, r1, p1⟩ => ?_
      cases q : dats us with
      | none => simp only [q] at p1; exact False.elim p1
      | some ds =>
        simp only [q] at p1
        have dr := dats_ok r1 q
        split at p1
        · rename_i hz
          exact ⟨by rw [← dr.length]; exact hz, (out_of mr1 p1).tup mr1.own dr⟩
        · exact False.elim p1
    | _ => simp [chkE] at h
  | .lst own es, S, d, e, sc, h, X, E, F => by
    cases e with
    | List xs pos =>
      simp only [chkE] at h
      refine PE.imp (pe_lst (soundEs es xs sc h X E F)) fun σ H Q ⟨ρ, env, m, er, mr, p⟩ => ?_
      rw [denE] at p
      refine (run2 er mr p).mono fun vs H1 ⟨ρ1, m1, us, e1, er1, mr1, r1, p1⟩ => ?_
      cases q : dats us with
      | none => simp only [q] at p1; exact False.elim p1
      | some ds =>
        simp only [q] at p1
        have dr := dats_ok r1 q
        split at p1
        · rename_i hz
          exact ⟨by rw [← dr.length]; exact hz, mkL_ok mr1 dr p1⟩
        · exact False.elim p1
    | _ => simp [chkE] at h
  | .dct own ks vs, S, d, e, sc, h, X, E, F => by
    cases e with
    | Dict keys values pos =>
      simp only [chkE, Bool.and_eq_true, decide_eq_true_eq] at h
      obtain ⟨⟨⟨h1, h2⟩, h3⟩, h15⟩ := h
      -- the new dict is owned while its values are made
      have fin : ∀ {σ : St} {H : Hp} {Q : VK}, TDE X.K E (denE (callN T d) (.dct own ks vs)) σ H Q → ∀ p, H p = none → tPairs (trsOf X.K E (callN T d) ks vs) σ (upd H p (.dK [])) fun ps H2 =>
          H2 p = some (.dK []) ∧ ∃ kvs : List (Key × V), ps = kvs.map (fun kv => (kV kv.1, kv.2)) ∧ kvs.length ≤ 15 ∧ Q (.ref p) (upd H2 p (.dK (mergeK [] kvs))) := fun {σ H Q} ⟨ρ, env, m, er, mr, p⟩ q hq => by
        rw [denE] at p
        obtain ⟨M0, ex0⟩ := mr.push (o := .dK []) (ob := .dct []) hq ⟨[], upd_same, .nil⟩
        have hqL : (ρ ++ [q])[m.length]? = some q := by rw [mr.len, List.getElem?_append_right (Nat.le_refl _)]; simp
        refine pairs_run ks vs h3 (er.ext ex0) M0 (g := fun us m2 => .ok us m2) (k := fun us m2 _ _ => Post X.K (E σ) H ρ (match dats us with
          | some ds => (match m2[m.length]?, dispD ks ds [] with
            | some (.dct []), some kvs => if ks.length ≤ 15 then closeC own m.length (.loc m.length) (m2.set m.length (.dct kvs)) else .stk
            | _, _ => .stk)
          | none => .stk) fun v _ H' ρ' => ∀ x, VR X.K H' ρ' v x → Q x H') ?_ fun us ws H2 ρ2 m2 e2 er2 mr2 r2 hl p2 => ?_
        · have p0 := p.bind0
          cases z : denEs (callN T d) vs env (m ++ [.dct []]) with
          | ok us m2 => rw [z] at p0; exact fun H2 ρ2 e M => p0 H2 ρ2 (ex0.trans e) M
          | err _ _ => rw [z] at p0; exact fun H' ρ' e M => p0 H' ρ' (ex0.trans e) M
          | stk => rw [z] at p0; exact p0
        · have p2 := ok_now mr2 p2
          have at2 : ρ2[m.length]? = some q := by
            obtain ⟨t, rfl⟩ := e2.pre
            rw [List.getElem?_append_left (List.getElem?_eq_some_iff.mp hqL).1]
            exact hqL
          cases z1 : dats us with
          | none => simp only [z1] at p2; exact False.elim p2
          | some ds =>
            simp only [z1] at p2
            have dr := dats_ok r2 z1
            cases z2 : m2[m.length]? with
            | none => simp only [z2] at p2; exact False.elim p2
            | some o =>
              cases o with
              | lst _ => simp only [z2] at p2; exact False.elim p2
              | ins _ _ => simp only [z2] at p2; exact False.elim p2
              | tab _ => simp only [z2] at p2; exact False.elim p2
              | dct kv0 =>
                cases kv0 with
                | cons _ _ => simp only [z2] at p2; exact False.elim p2
                | nil =>
                  cases z3 : dispD ks ds [] with
                  | none => simp only [z2, z3] at p2; exact False.elim p2
                  | some kvs =>
                    simp only [z2, z3] at p2
                    rw [if_pos h15] at p2
                    obtain ⟨ks', k1, k2⟩ := mr2.ob _ _ q z2 at2
                    cases k2
                    refine ⟨k1, _, rfl, ?_, ?_⟩
                    · rw [List.length_zip, List.length_map]
                      omega
                    · have exu : Ext H2 ρ2 (upd H2 q (.dK (mergeK [] ((ks.map keyOf).zip ws)))) ρ2 := ⟨⟨[], by simp⟩, fun b u w n _ => ⟨by
                        have nb : b ≠ q := fun e => n (by rw [e]; exact List.mem_of_getElem? at2)
                        rw [upd_ne nb]
                        exact w, n⟩⟩
                      obtain ⟨M3, e3⟩ := mr2.put (o := .dK (mergeK [] ((ks.map keyOf).zip ws))) (ob := .dct kvs) at2 ⟨_, upd_same, (disp_rel .nil (dr.ext exu) z3).1⟩
                      exact close_run mr.len ((ex0.trans e2).trans e3) M3 p2 _ ⟨q, rfl, at2⟩
      cases ks with
      | nil =>
        cases keys with
        | cons _ _ => simp [chkKs] at h1
        | nil =>
          cases vs with
          | cons _ _ => simp [lenE] at h3
          | nil =>
            cases values with
            | cons _ _ => simp [chkEs] at h2
            | nil =>
              refine PE.imp pe_dnewK fun σ H Q q => ?_
              intro p hp
              obtain ⟨q1, kvs, q2, q3, q4⟩ := fin q p hp
              have e0 : kvs = [] := by cases kvs <;> first | rfl | cases q2
              subst e0
              have e1 : upd (upd H p (.dK [])) p (.dK (mergeK [] [])) = upd H p (.dK []) := upd_upd
              rw [e1] at q4
              exact q4
      | cons k ks =>
        have hp := soundK vs (k :: ks) keys values sc pos h1 h2 h3 X E F
        have hne : keys ≠ [] := by intro z; subst z; simp [chkKs] at h1
        obtain ⟨a1, a2⟩ := keys_len (k :: ks) keys h1
        have a3 := vals_len vs values sc h2
        exact PE.imp (pe_disp hp a1 (by omega) hne (by omega)) fun σ H Q q => fin q
    | _ => simp [chkE] at h
  | .ix a i, S, d, e, sc, h, X, E, F => by
    cases e with
    | Subscript x y pos =>
      simp only [chkE, Bool.and_eq_true] at h
      obtain ⟨⟨h1, h2⟩, h3⟩ := h
      refine PE.imp (pe_ix ix_P (soundE a x sc h1 X E F) (soundE i y sc h2 X E F) (ix_plain h3)) fun σ H Q ⟨ρ, env, m, er, mr, p⟩ => ?_
      rw [denE] at p
      refine (run2 er mr p).mono fun x H1 ⟨ρ1, m1, v1, e1, er1, mr1, r1, p1⟩ => (run2 er1 mr1 p1).mono fun y H2 ⟨ρ2, m2, v2, e2, er2, mr2, r2, p2⟩ => ?_
      obtain ⟨d1, q1, p2⟩ := rdd_ok p2
      obtain ⟨d2, q2, p2⟩ := rdd_ok p2
      obtain ⟨dd, q3, p2⟩ := dat_ok p2
      exact ⟨ρ2, d1, d2, dd, mr2.own, rd_ok mr2 (r1.ext e2) q1, rd_ok mr2 r2 q2, q3, out_of mr2 p2⟩
    | _ => simp [chkE] at h
  | .sl a lo hi, S, d, e, sc, h, X, E, F => by
    cases e with
    | Subscript x y pos =>
      cases y with
      | Slice l hh st p2 =>
        cases st with
        | none =>
          simp only [chkE, Bool.and_eq_true] at h
          obtain ⟨⟨h1, h2⟩, h3⟩ := h
          refine PE.imp (pe_slice sl_P (soundE a x sc h1 X E F) (soundO lo l sc h2 X E F) (soundO hi hh sc h3 X E F)) fun σ H Q ⟨ρ, env, m, er, mr, p⟩ => ?_
          rw [denE] at p
          refine (run2 er mr p).mono fun x H1 ⟨ρ1, m1, v1, e1, er1, mr1, r1, p1⟩ => (run2 er1 mr1 p1).mono fun y H2 ⟨ρ2, m2, v2, e2, er2, mr2, r2, p2⟩ => (run2 er2 mr2 p2).mono fun z H3 ⟨ρ3, m3, v3, e3, er3, mr3, r3, p3⟩ => ?_
          cases r2
          cases r3
          obtain ⟨d1, q1, p3⟩ := rdd_ok p3
          obtain ⟨dd, q3, p3⟩ := dat_ok p3
          exact ⟨ρ3, d1, dd, mr3.own, rd_ok mr3 ((r1.ext e2).ext e3) q1, q3, out_of mr3 p3⟩
        | some _ => simp [chkE] at h
      | _ => simp [chkE] at h
    | _ => simp [chkE] at h
  | .rev a k, S, d, e, sc, h, X, E, F => by
    simp only [chkE] at h
    split at h
    · rename_i x st p2 pos
      simp only [Bool.and_eq_true] at h
      refine PE.imp (pe_rev (soundE a x sc h.1 X E F) (soundE k st sc h.2 X E F)) fun σ H Q ⟨ρ, env, m, er, mr, p⟩ => ?_
      rw [denE] at p
      refine (run2 er mr p).mono fun x H1 ⟨ρ1, m1, v1, e1, er1, mr1, r1, p1⟩ => (run2 er1 mr1 p1).mono fun y H2 ⟨ρ2, m2, v2, e2, er2, mr2, r2, p2⟩ => ?_
      cases hM : isM1 v2 with
      | false => rw [hM] at p2; exact False.elim p2
      | true =>
        rw [hM, if_pos rfl] at p2
        have hy : y = .int (-1) := by
          unfold isM1 at hM
          split at hM
          · rename_i i
            cases eq_of_beq hM
            cases r2
            rfl
          · cases hM
        obtain ⟨d1, q1, p2⟩ := rdd_ok p2
        obtain ⟨dd, q3, p2⟩ := dat_ok p2
        exact ⟨hy, ρ2, d1, dd, mr2.own, rd_ok mr2 (r1.ext e2) q1, q3, out_of mr2 p2⟩
    · cases h
  | .lstC a, S, d, e, sc, h, X, E, F => by
    simp only [chkE] at h
    split at h
    · rename_i y pn x pos
      simp only [Bool.and_eq_true, decide_eq_true_eq] at h
      obtain ⟨⟨⟨rfl, h1⟩, h2⟩, h3⟩ := h
      have hgl : Gl X ("list" : Str) := by show X.env.scope.names.lookup _ = _; rw [F.sc]; exact glo_of h1
      refine PE.imp (pe_callTy call_list_of hgl (F.un _ (by decide +kernel)) (by decide +kernel) (pa_cons (soundE a x sc h2 X E F) pa_nil (star_plain h3 _ X.env)) (by decide +kernel) (by decide +kernel) (star_plain h3 _ X.env) rfl) fun σ H Q ⟨ρ, env, m, er, mr, p⟩ => ?_
      rw [denE] at p
      refine (run2 er mr p).mono fun x H1 ⟨ρ1, m1, v1, e1, er1, mr1, r1, p1⟩ => ?_
      obtain ⟨d1, q1, p1⟩ := rdd_ok p1
      cases hq : seqOf d1 with
      | none => rw [hq] at p1; exact False.elim p1
      | some ds =>
        rw [hq] at p1
        obtain ⟨b, vs, rfl, sq, dr⟩ := seq_ofE (rd_ok mr1 r1 q1) hq
        exact ⟨b, vs, rfl, sq, mkL_ok mr1 dr p1⟩
    · cases h
  | .lstR own a, S, d, e, sc, h, X, E, F => by
    simp only [chkE] at h
    split at h
    · rename_i y pn z pz x pos2 pos
      simp only [Bool.and_eq_true, decide_eq_true_eq] at h
      obtain ⟨⟨⟨⟨⟨rfl, h1⟩, rfl⟩, h2⟩, h3⟩, h4⟩ := h
      have hgl : Gl X ("list" : Str) := by show X.env.scope.names.lookup _ = _; rw [F.sc]; exact glo_of h1
      have hgr : Gl X ("range" : Str) := by show X.env.scope.names.lookup _ = _; rw [F.sc]; exact glo_of h2
      refine PE.imp (pe_listRg F.calm hgl (F.un _ (by decide +kernel)) (prg_1 hgr (F.un _ (by decide +kernel)) (soundE a x sc h3 X E F) (star_plain h4 _ X.env)) rfl) fun σ H Q ⟨ρ, env, m, er, mr, p⟩ => ?_
      rw [denE] at p
      refine (run2 er mr p).mono fun x H1 ⟨ρ1, m1, v1, e1, er1, mr1, r1, p1⟩ => ?_
      cases v1 with
      | loc l => exact False.elim p1
      | d dd =>
        cases dd with
        | int i =>
          cases r1
          simp only at p1
          split at p1
          · rename_i hr
            simp only [lrOk, Bool.and_eq_true, decide_eq_true_eq] at hr
            exact ⟨i, rfl, ⟨by omega, by omega, by omega, by omega, by omega⟩, mkL_ok mr1 (rg_drs 0 i) p1⟩
          · exact False.elim p1
        | _ => exact False.elim p1
    · cases h
  | .repO a b, S, d, e, sc, h, X, E, F => by
    cases e with
    | BinOp x o' y pos =>
      simp only [chkE, Bool.and_eq_true, decide_eq_true_eq] at h
      obtain ⟨⟨rfl, h1⟩, h2⟩ := h
      refine PE.imp (pe_op op_repW (soundE a x sc h1 X E F) (soundE b y sc h2 X E F)) fun σ H Q ⟨ρ, env, m, er, mr, p⟩ => ?_
      rw [denE] at p
      refine (run2 er mr p).mono fun x H1 ⟨ρ1, m1, v1, e1, er1, mr1, r1, p1⟩ => (run2 er1 mr1 p1).mono fun y H2 ⟨ρ2, m2, v2, e2, er2, mr2, r2, p2⟩ => ?_
      obtain ⟨d1, q1, p2⟩ := rdd_ok p2
      obtain ⟨d2, q2, p2⟩ := rdd_ok p2
      have g1 := rd_ok mr2 (r1.ext e2) q1
      have g2 := rd_ok mr2 r2 q2
      cases d1 with
      | list xs =>
        cases d2 with
        | int k =>
          simp only at p2
          split at p2
          · rename_i hr
            simp only [repOk, Bool.and_eq_true, decide_eq_true_eq] at hr
            obtain ⟨c, vs, rfl, sq, dr⟩ := g1
            cases rdt_int g2
            exact ⟨c, k, vs, rfl, rfl, sq, hr.1.1, hr.1.2, by rw [← dr.length]; exact hr.2, mkL_ok mr2 (dr.rep _) p2⟩
          · exact False.elim p2
        | _ => exact False.elim p2
      | _ => cases d2 <;> exact False.elim p2
    | _ => simp [chkE] at h
  | .popA o i, S, d, e, sc, h, X, E, F => by
    simp only [chkE] at h
    split at h
    · rename_i x px y ap e cp
      simp only [Bool.and_eq_true, decide_eq_true_eq] at h
      obtain ⟨⟨⟨⟨rfl, h0⟩, h1⟩, h2⟩, h3⟩ := h
      have hs := star_plain h3 [] X.env
      refine PE.imp (pe_bm PySem.F.plainAttrs_list PySem.F.slot_list_pop PySem.F.type_list_pop mt_popAt (soundE o _ sc h1 X E F) (pa_cons (soundE i e sc h2 X E F) pa_nil hs) rfl (by rw [hs]; rfl) h0 hs rfl) fun σ H Q ⟨ρ, env, m, er, mr, p⟩ => ?_
      rw [denE] at p
      refine (run2 er mr p).mono fun x H1 ⟨ρ1, m1, v1, e1, er1, mr1, r1, p1⟩ => ?_
      cases hL : isL v1 m1 with
      | false => rw [hL] at p1; exact False.elim p1
      | true =>
        rw [hL] at p1
        refine ⟨?_, ?_⟩
        · match v1, r1, hL with
          | .loc l, r1, hL =>
            obtain ⟨A, rfl, ha⟩ := r1
            cases q : m1[l]? with
            | none => simp [isL, q] at hL
            | some ob =>
              have rr := mr1.ob l ob A q ha
              cases ob with
              | lst xs =>
                obtain ⟨vs, q1, q2⟩ := rr
                exact .inl ⟨rfl, vs, .inl (.inl q1)⟩
              | dct _ => simp [isL, q] at hL
              | ins _ _ => simp [isL, q] at hL
              | tab _ => simp [isL, q] at hL
        · exact (run2 er1 mr1 p1).mono fun y H2 ⟨ρ2, m2, v2, e2, er2, mr2, r2, p2⟩ => pop_ok mr2 (r1.ext e2) r2 p2
    · cases h
  | .call g x es, S, d, e, sc, h, X, E, F => by
    cases e with
    | Call fn xs kws pos =>
      cases fn with
      | Name y pn =>
        cases kws with
        | nil =>
          simp only [chkE, Bool.and_eq_true, decide_eq_true_eq] at h
          obtain ⟨⟨⟨⟨rfl, h1⟩, h2⟩, h3⟩, h4⟩ := h
          obtain ⟨n1, n2, _⟩ := nm_of h2
          obtain ⟨kw, h3, hkw⟩ := fsB_ok h3
          cases kw with
          | cons _ _ => cases hkw
          | nil =>
          obtain ⟨a, fd, ps, g1, g2, g3, g4⟩ := F.fn d (Nat.le_refl _) g x _ _ h3
          have g5 := g3.plain
          have hgl : Gl X x := by show X.env.scope.names.lookup _ = _; rw [F.sc]; exact glo_of h1
          have hal := soundEs es xs sc h4 X E F
          have hap := any_plain es xs pos X.env h4
          have fin : ∀ {σ : St} {H : Hp} {Q : VK}, TDE X.K E (denE (callN T d) (.call g x es)) σ H Q → TDA X.K E (denEs (callN T d) es) σ H fun vs H1 => spN X.K X.mg T d g (lenE es) vs H1 Q (WE (WK X.K X.mg E) σ) := fun {σ H Q} ⟨ρ, env, m, er, mr, p⟩ => by
            rw [denE] at p
            have hl := lenEs (callN T d) es env m
            refine ⟨ρ, env, m, er, mr, ?_⟩
            have p' := p.bind
            cases q : denEs (callN T d) es env m with
            | ok us m1 =>
              rw [q] at p' hl
              exact fun H1 ρ1 e1 M1 vs r => ⟨ρ1, us, m1, r, hl, M1, (p' H1 ρ1 e1 M1).cast fun e m H' ρ' M h c od x => ⟨e, m, ρ', x, M, h⟩⟩
            | err z m1 => rw [q] at p'; exact p'
            | stk => rw [q] at p'; exact p'
          cases xs with
          | nil =>
            cases es with
            | nil =>
              refine PE.imp (pe_callPS0 (E := WE (WK X.K X.mg E)) g4 F.room F.hg hgl g1 g2 g5 (passAtL F.tk) n1) fun σ H Q q => ?_
              obtain ⟨ρ, env, m, er, mr, p⟩ := fin q
              rw [denEs] at p
              exact ok_now mr p [] .nil
            | cons _ _ => simp [chkEs] at h4
          | cons z zs =>
            have hz : plainX z = true := by
              cases es with
              | nil => simp [chkEs] at h4
              | cons _ _ => simp only [chkEs, Bool.and_eq_true] at h4; exact h4.1.2
            have hap' : (backTo pos (starEach zs X.env)).any (·.1) = false := by
              cases es with
              | nil => simp [chkEs] at h4
              | cons c r => simp only [chkEs, Bool.and_eq_true] at h4; exact any_plain r zs pos X.env h4.2
            exact PE.imp (pe_callPS (E := WE (WK X.K X.mg E)) g4 F.room F.hg hgl g1 g2 g5 (passAtL F.tk) hal n1 (star_plain hz zs X.env) hap') fun σ H Q q => fin q
        | cons _ _ => simp [chkE] at h
      | _ => simp [chkE] at h
    | _ => simp [chkE] at h
  | .callD g x es ds, S, d, e, sc, h, X, E, F => by
    simp only [chkE] at h
    split at h
    · rename_i y pn z zs pos
      simp only [Bool.and_eq_true, decide_eq_true_eq] at h
      obtain ⟨⟨⟨⟨rfl, h1⟩, h2⟩, h3⟩, h4⟩ := h
      obtain ⟨n1, n2, _⟩ := nm_of h2
      obtain ⟨kw, h3, hkw⟩ := fsB_ok h3
      cases eqDs_ok _ _ hkw
      obtain ⟨a, fd, ps, g1, g2, g3, g4⟩ := F.fn d (Nat.le_refl _) g x _ _ h3
      obtain ⟨dvs, dsv, b1, b2, b3⟩ := g3.pos
      have hgl : Gl X x := by show X.env.scope.names.lookup _ = _; rw [F.sc]; exact glo_of h1
      have hal := soundEs es (z :: zs) sc h4 X E F
      have hz : plainX z = true ∧ (backTo pos (starEach zs X.env)).any (·.1) = false := by
        cases es with
        | nil => simp [chkEs] at h4
        | cons c r => simp only [chkEs, Bool.and_eq_true] at h4; exact ⟨h4.1.2, any_plain r zs pos X.env h4.2⟩
      refine PE.imp (pe_callPSD (E := WE (WK X.K X.mg E)) g4 F.room F.hg hgl g1 g2 b3 b2 (passAtL F.tk) hal n1 (star_plain hz.1 zs X.env) hz.2) fun σ H Q ⟨ρ, env, m, er, mr, p⟩ => ?_
      rw [denE] at p
      have hl := lenEs (callN T d) es env m
      refine ⟨ρ, env, m, er, mr, ?_⟩
      have p' := p.bind
      cases q : denEs (callN T d) es env m with
      | ok us m1 =>
        rw [q] at p' hl
        exact fun H1 ρ1 e1 M1 vs r => ⟨ρ1, us ++ (kw.map (·.2)).map .d, m1, r.app_d (b1 H1 ρ1), by simp at hl ⊢; omega, M1, (p' H1 ρ1 e1 M1).cast fun e m H' ρ' M h c od x => ⟨e, m, ρ', x, M, h⟩⟩
      | err z m1 => rw [q] at p'; exact p'
      | stk => rw [q] at p'; exact p'
    · cases h
  | .callK g x es ks vs, S, d, e, sc, h, X, E, F => by
    simp only [chkE] at h
    split at h
    · rename_i y pn z zs kws pos
      simp only [Bool.and_eq_true, decide_eq_true_eq] at h
      obtain ⟨⟨⟨⟨⟨⟨⟨⟨rfl, h1⟩, h2⟩, h3⟩, hk1⟩, hk2⟩, hk3⟩, h4⟩, h5⟩ := h
      obtain ⟨n1, n2, _⟩ := nm_of h2
      obtain ⟨kw, h3, hkw⟩ := fsB_ok h3
      have hkw := of_decide_eq_true hkw
      subst hkw
      obtain ⟨a, fd, ps, g1, g2, g3, g4⟩ := F.fn d (Nat.le_refl _) g x _ _ h3
      have kb := g3.key (by rintro rfl; exact hk3 rfl) (lenE es) (by simp)
      have hgl : Gl X x := by show X.env.scope.names.lookup _ = _; rw [F.sc]; exact glo_of h1
      have hal := soundEs es (z :: zs) sc h4 X E F
      have hak := soundKw vs kws sc h5 X E F
      have hz : plainX z = true ∧ (backTo pos (starEach zs X.env)).any (·.1) = false := by
        cases es with
        | nil => simp [chkEs] at h4
        | cons c r => simp only [chkEs, Bool.and_eq_true] at h4; exact ⟨h4.1.2, any_plain r zs pos X.env h4.2⟩
      obtain ⟨k1, k2, k3⟩ := kw_facts pos X.env hk1
      refine PE.imp (pe_callPSK (E := WE (WK X.K X.mg E)) g4 F.room F.hg hgl g1 g2 kb (passAtL F.tk) hal hak k1 k2 n1 (star_plain hz.1 zs X.env) (by rw [star_plain hz.1 zs X.env, k3, Bool.or_false]; exact hz.2)) fun σ H Q ⟨ρ, env, m, er, mr, p⟩ => ?_
      rw [denE] at p
      have hl := lenEs (callN T d) es env m
      refine ⟨ρ, env, m, er, mr, ?_⟩
      have p' := p.bind
      cases q : denEs (callN T d) es env m with
      | err z m1 => rw [q] at p'; exact p'
      | stk => rw [q] at p'; exact p'
      | ok us m1 =>
        rw [q] at p' hl
        intro H1 ρ1 e1 M1 vs' r
        have hl2 := lenEs (callN T d) vs env m1
        refine ⟨ρ1, env, m1, er.ext e1, M1, ?_⟩
        have p2 := (p' H1 ρ1 e1 M1).bind
        cases q2 : denEs (callN T d) vs env m1 with
        | err z m1 => rw [q2] at p2; exact p2
        | stk => rw [q2] at p2; exact p2
        | ok ws m2 =>
          rw [q2] at p2 hl2
          exact fun H2 ρ2 e2 M2 zs' rz => ⟨by rw [← r.length]; exact hl, by rw [← rz.length, ← hk2]; exact hl2, ρ2, us ++ ws, m2, (r.ext e2).append rz, by simp at hl hl2 hk2 ⊢; omega, M2, (p2 H2 ρ2 e2 M2).cast fun e m H' ρ' M h c od x => ⟨e, m, ρ', x, M, h⟩⟩
    · cases h
  | .inK neg a x ks, S, d, e, sc, h, X, E, F => by
    simp only [chkE] at h
    split at h
    · rename_i y o z pz pos
      simp only [Bool.and_eq_true, decide_eq_true_eq] at h
      obtain ⟨⟨⟨⟨⟨h0, rfl⟩, h1⟩, h2⟩, h3⟩, h4⟩ := h
      obtain ⟨n1, n2, _⟩ := nm_of h2
      obtain ⟨dd, des, dn, g1, g2, g3⟩ := F.tb _ _ h3
      have hgl : PE X (.Name z pz) (tC (.ref dd)) := pe_glob (by show X.env.scope.names.lookup _ = _; rw [F.sc]; exact glo_of h1) g1 rfl n1
      cases neg with
      | true =>
        cases of_decide_eq_true h0
        refine PE.imp (pe_cmpR (op_notIn_kd g2) (soundE a y sc h4 X E F) hgl rfl) fun σ H Q ⟨ρ, env, m, er, mr, p⟩ => ?_
        rw [denE] at p
        refine (run2 er mr p).mono fun x H1 ⟨ρ1, m1, v1, e1, er1, mr1, r1, p1⟩ => ?_
        match v1, r1, p1 with
        | .d (.str u), r1, p1 =>
          cases r1
          obtain ⟨r, k1, k2⟩ := g3 u
          exact ⟨u, r, rfl, rfl, k1, by rw [k2]; exact ok_now mr1 p1 _ (.bl _)⟩
        | .d .none, _, p1 => exact False.elim p1
        | .d (.bool _), _, p1 => exact False.elim p1
        | .d (.int _), _, p1 => exact False.elim p1
        | .d (.list _), _, p1 => exact False.elim p1
        | .d (.tuple _), _, p1 => exact False.elim p1
        | .d (.dict _), _, p1 => exact False.elim p1
        | .loc _, _, p1 => exact False.elim p1
      | false =>
        cases of_decide_eq_true h0
        refine PE.imp (pe_cmpR (op_in_kd g2) (soundE a y sc h4 X E F) hgl rfl) fun σ H Q ⟨ρ, env, m, er, mr, p⟩ => ?_
        rw [denE] at p
        refine (run2 er mr p).mono fun x H1 ⟨ρ1, m1, v1, e1, er1, mr1, r1, p1⟩ => ?_
        match v1, r1, p1 with
        | .d (.str u), r1, p1 =>
          cases r1
          obtain ⟨r, k1, k2⟩ := g3 u
          exact ⟨u, r, rfl, rfl, k1, by rw [k2]; exact ok_now mr1 p1 _ (.bl _)⟩
        | .d .none, _, p1 => exact False.elim p1
        | .d (.bool _), _, p1 => exact False.elim p1
        | .d (.int _), _, p1 => exact False.elim p1
        | .d (.list _), _, p1 => exact False.elim p1
        | .d (.tuple _), _, p1 => exact False.elim p1
        | .d (.dict _), _, p1 => exact False.elim p1
        | .loc _, _, p1 => exact False.elim p1
    · cases h
  | .lam l q b, S, d, e, sc, h, X, E, F => by
    have h' := h
    simp only [chkE] at h
    split at h
    · simp only [Bool.and_eq_true, decide_eq_true_eq] at h
      exact sound_lam F h' fun n X' E' F' => soundE b _ _ h.2 X' E' F'
    · cases h
  | .bi b es, S, d, e, sc, h, X, E, F => by
    cases e with
    | Call fn xs kws pos =>
      cases fn with
      | Name y pn =>
        cases kws with
        | nil =>
          cases xs with
          | nil => simp [chkE] at h
          | cons z zs =>
            simp only [chkE, Bool.and_eq_true, decide_eq_true_eq] at h
            obtain ⟨⟨rfl, h1⟩, h2⟩ := h
            have hz : plainX z = true ∧ (backTo pos (starEach zs X.env)).any (·.1) = false := by
              cases es with
              | nil => simp [chkEs] at h2
              | cons c r => simp only [chkEs, Bool.and_eq_true] at h2; exact ⟨h2.1.2, any_plain r zs pos X.env h2.2⟩
            have hgl : Gl X (biName b) := by show X.env.scope.names.lookup _ = _; rw [F.sc]; exact glo_of h1
            refine PE.imp (bi_call F.calm F.sy F.hg F.room.units b hgl (F.un _ (biName_mem b)) (soundEs es (z :: zs) sc h2 X E F) (star_plain hz.1 zs X.env) hz.2) fun σ H Q ⟨ρ, env, m, er, mr, p⟩ => ?_
            rw [denE] at p
            refine (run2 er mr p).mono fun vs H1 ⟨ρ1, m1, us, e1, er1, mr1, r1, p1⟩ => ?_
            cases q : rds m1 us with
            | none => simp only [q] at p1; exact False.elim p1
            | some ds =>
              simp only [q] at p1
              obtain ⟨dd, q3, p1⟩ := dat_ok p1
              exact ⟨ρ1, ds, dd, mr1.own, rds_ok mr1 r1 q, q3, out_of mr1 p1⟩
        | cons _ _ => simp [chkE] at h
      | _ => simp [chkE] at h
    | _ => simp [chkE] at h
  | .isi a t, S, d, e, sc, h, X, E, F => by
    cases e with
    | Call fn xs kws pos =>
      simp only [chkE] at h
      split at h
      · rename_i _ y pn x z pz _ he
        cases he
        simp only [Bool.and_eq_true, decide_eq_true_eq] at h
        obtain ⟨⟨⟨⟨⟨⟨rfl, h1⟩, rfl⟩, h2⟩, h3⟩, h4⟩, h5⟩ := h
        obtain ⟨t1, t2, t3, t4⟩ := ty_mem h3
        have hgl : Gl X ("isinstance" : Str) := by show X.env.scope.names.lookup _ = _; rw [F.sc]; exact glo_of h1
        have hgt : Gl X (Str.ofString t) := by show X.env.scope.names.lookup _ = _; rw [F.sc]; exact glo_of h2
        refine PE.imp (pe_callB (isi_P h3) hgl (F.un _ (by decide +kernel)) isi_boot (pa_cons (soundE a x sc h4 X E F) (pa_cons (pe_bltn hgt (F.un _ t1) t2 (v := .ty t) rfl t3 t4) pa_nil rfl) (star_plain h5 _ X.env)) (by decide +kernel) (by decide +kernel) (star_plain h5 _ X.env) rfl) fun σ H Q ⟨ρ, env, m, er, mr, p⟩ => ?_
        rw [denE] at p
        refine (run2 er mr p).mono fun x H1 ⟨ρ1, m1, v1, e1, er1, mr1, r1, p1⟩ => ?_
        obtain ⟨d1, q1, p1⟩ := rdd_ok p1
        exact ⟨ρ1, d1, x, rfl, rd_ok mr1 r1 q1, ok_now mr1 p1 _ (.bl _)⟩
      · cases h
    | _ => simp [chkE] at h
  | .lc own t xs src c e', S, d, e, sc, h, X, E, F => by
    cases e with
    | ListComp elt gs scope pos =>
      simp only [chkE] at h
      split at h
      · rename_i _ _ tg iter ifs _ _ he
        cases he
        simp only [Bool.and_eq_true, Bool.or_eq_true, Bool.not_eq_true', decide_eq_true_eq] at h
        obtain ⟨⟨⟨⟨⟨⟨h0, h1⟩, ht⟩, h2⟩, hti⟩, h3⟩, h4⟩ := h
        have okB : BlkOk X.N X.env.scope scope (xs.zip t.slots) := by rw [F.N, F.sc]; exact blkOk_by h1
        have eo : (xs.zip t.slots).map (·.2) = t.slots := List.map_snd_zip (by omega)
        have go := pe_lcE (X := X) (elt := elt) (tg := tg) (iter := iter) (ifs := ifs) (scope := scope) (own := xs.zip t.slots) (pos := pos) (wi := TDI X.K E (denI (callN T d) src)) (g := gTgt X.K t) (tt := fun σ => TDT X.K (fun _ => E σ) (denTAnd (callN T d) c)) (te := fun σ => TDE X.K (fun _ => E σ) (denE (callN T d) e'))
          (W := WK X.K X.mg E) (W' := fun σ => WK X.K X.mg (fun _ => E σ)) F.tk (fun _ _ _ _ _ w => w) F.calm (by rw [F.N]; exact F.nd) (soundI src iter sc h2 X E hti F) okB
          (fun σ s H C L cl fp => pg_tgt (X := blkE X s H scope (compEnvC scope cl C X.env) fp L (WK X.K X.mg fun _ => E σ)) (p := lcP sc scope) F.calm (by show X.N.Nodup; rw [F.N]; exact F.nd) (lcP_p (by show relS scope X.env.scope = _; rw [F.sc]) rfl) t tg (by show chkTg X.N _ _ _ = true; rw [F.N]; exact ht))
          (fun σ s H C L cl fp tk => soundC c ifs (relS scope sc) h3 _ _ (F.blk s H scope C cl fp tk)) (fun σ s H C L cl fp tk => soundE e' elt (relS scope sc) h4 _ _ (F.blk s H scope C cl fp tk)) (fun z => set_of_I src iter h2 X.env z)
        rw [eo] at go
        refine PE.imp go fun σ H Q ⟨ρ, env, m, er, mr, p⟩ => ?_
        rw [denE] at p
        refine ⟨ρ, env, m, er, mr, p.bind.imp fun its m1 H1 ρ1 e1 M1 p1 J hJ D hD => ?_⟩
        have er1 := er.ext e1
        exact lc_run hJ rfl er1 M1 rfl hD p1.bind0 fun m2 H2 ρ2 e2 M2 at2 p2 => close_run M1.len e2 M2 p2 _ ⟨D, rfl, at2⟩
      · cases h
    | _ => simp [chkE] at h
theorem soundK : ∀ (c : CEs) {S : Tab} {d : Nat} (ks : List PyData) (keys : List (Option Expr)) (values : List Expr) (sc : Scope) (pos : Pos), chkKs ks keys = true → chkEs S sc c values = true → ks.length = lenE c → ∀ (X : Cx) (E : SK), Fine T S d sc X E → PPs X pos keys values (trsOf X.K E (callN T d) ks c)
  | .nil, S, d, ks, keys, values, sc, pos, h1, h2, h3, X, E, F => by
    cases ks with
    | cons _ _ => simp [lenE] at h3
    | nil =>
      cases keys with
      | cons _ _ => simp [chkKs] at h1
      | nil =>
        cases values with
        | cons _ _ => simp [chkEs] at h2
        | nil => exact pps_nil
  | .cons c r, S, d, ks, keys, values, sc, pos, h1, h2, h3, X, E, F => by
    cases ks with
    | nil => simp [lenE] at h3
    | cons k ks =>
      cases keys with
      | nil => simp [chkKs] at h1
      | cons z zs =>
        cases values with
        | nil => simp [chkEs] at h2
        | cons v vs =>
          simp only [chkKs] at h1
          split at h1
          · rename_i cc j kp es he
            cases he
            simp only [Bool.and_eq_true] at h1
            simp only [chkEs, Bool.and_eq_true] at h2
            exact pps_cons (pe_const h1.1.1 h1.1.2) (soundE c v sc h2.1.1 X E F) (soundK r ks _ vs sc pos h1.2 h2.2 (by simpa [lenE] using h3) X E F)
          · cases h1
theorem soundAnd : ∀ (c : CEs) {S : Tab} {d : Nat} (es : List Expr) (pos : Pos) (sc : Scope), chkEs S sc c es = true → ∀ (X : Cx) (E : SK), Fine T S d sc X E → PE X (.BoolOp .And es pos) (TDE X.K E (denAnd (callN T d) c))
  | .nil, S, d, es, pos, sc, h, X, E, F => by
    cases es with
    | nil => exact ⟨fun pins s σ H Q I ⟨ρ, env, m, er, mr, p⟩ => False.elim p⟩
    | cons _ _ => simp [chkEs] at h
  | .cons c .nil, S, d, es, pos, sc, h, X, E, F => by
    match es, h with
    | [e], h =>
      simp only [chkEs, Bool.and_eq_true] at h
      refine PE.imp (pe_one (soundE c e sc h.1.1 X E F)) fun σ H Q ⟨ρ, env, m, er, mr, p⟩ => ⟨ρ, env, m, er, mr, by rw [denAnd] at p; exact p⟩
    | [], h => simp [chkEs] at h
    | _ :: _ :: _, h => simp [chkEs] at h
  | .cons c (.cons c2 r), S, d, es, pos, sc, h, X, E, F => by
    match es, h with
    | e :: f :: es, h =>
      have h2 : chkEs S sc (.cons c2 r) (f :: es) = true := by simp only [chkEs, Bool.and_eq_true] at h ⊢; exact h.2
      have h1 : chkE S sc c e = true := by simp only [chkEs, Bool.and_eq_true] at h; exact h.1.1
      refine PE.imp (pe_and (soundE c e sc h1 X E F) (soundAnd (.cons c2 r) (f :: es) pos sc h2 X E F)) fun σ H Q ⟨ρ, env, m, er, mr, p⟩ => ?_
      rw [denAnd] at p
      refine (run2 er mr p).mono fun x H1 ⟨ρ1, m1, v1, e1, er1, mr1, r1, p1⟩ => ?_
      match v1, r1, p1 with
      | .d (.bool true), r1, p1 => cases r1; exact ⟨true, rfl, ρ1, env, m1, er1, mr1, p1⟩
      | .d (.bool false), r1, p1 => cases r1; exact ⟨false, rfl, ok_now mr1 p1 _ (.bl _)⟩
      | .d .none, _, p1 => exact False.elim p1
      | .d (.int _), _, p1 => exact False.elim p1
      | .d (.str _), _, p1 => exact False.elim p1
      | .d (.list _), _, p1 => exact False.elim p1
      | .d (.tuple _), _, p1 => exact False.elim p1
      | .d (.dict _), _, p1 => exact False.elim p1
      | .loc _, _, p1 => exact False.elim p1
    | [], h => simp [chkEs] at h
    | [_], h => simp [chkEs] at h
theorem soundOr : ∀ (c : CEs) {S : Tab} {d : Nat} (es : List Expr) (pos : Pos) (sc : Scope), chkEs S sc c es = true → ∀ (X : Cx) (E : SK), Fine T S d sc X E → PE X (.BoolOp .Or es pos) (TDE X.K E (denOr (callN T d) c))
  | .nil, S, d, es, pos, sc, h, X, E, F => by
    cases es with
    | nil => exact ⟨fun pins s σ H Q I ⟨ρ, env, m, er, mr, p⟩ => False.elim p⟩
    | cons _ _ => simp [chkEs] at h
  | .cons c .nil, S, d, es, pos, sc, h, X, E, F => by
    match es, h with
    | [e], h =>
      simp only [chkEs, Bool.and_eq_true] at h
      refine PE.imp (pe_one (soundE c e sc h.1.1 X E F)) fun σ H Q ⟨ρ, env, m, er, mr, p⟩ => ⟨ρ, env, m, er, mr, by rw [denOr] at p; exact p⟩
    | [], h => simp [chkEs] at h
    | _ :: _ :: _, h => simp [chkEs] at h
  | .cons c (.cons c2 r), S, d, es, pos, sc, h, X, E, F => by
    match es, h with
    | e :: f :: es, h =>
      have h2 : chkEs S sc (.cons c2 r) (f :: es) = true := by simp only [chkEs, Bool.and_eq_true] at h ⊢; exact h.2
      have h1 : chkE S sc c e = true := by simp only [chkEs, Bool.and_eq_true] at h; exact h.1.1
      refine PE.imp (pe_or (soundE c e sc h1 X E F) (soundOr (.cons c2 r) (f :: es) pos sc h2 X E F)) fun σ H Q ⟨ρ, env, m, er, mr, p⟩ => ?_
      rw [denOr] at p
      refine (run2 er mr p).mono fun x H1 ⟨ρ1, m1, v1, e1, er1, mr1, r1, p1⟩ => ?_
      match v1, r1, p1 with
      | .d (.bool true), r1, p1 => cases r1; exact ⟨true, rfl, ok_now mr1 p1 _ (.bl _)⟩
      | .d (.bool false), r1, p1 => cases r1; exact ⟨false, rfl, ρ1, env, m1, er1, mr1, p1⟩
      | .d .none, _, p1 => exact False.elim p1
      | .d (.int _), _, p1 => exact False.elim p1
      | .d (.str _), _, p1 => exact False.elim p1
      | .d (.list _), _, p1 => exact False.elim p1
      | .d (.tuple _), _, p1 => exact False.elim p1
      | .d (.dict _), _, p1 => exact False.elim p1
      | .loc _, _, p1 => exact False.elim p1
    | [], h => simp [chkEs] at h
    | [_], h => simp [chkEs] at h
theorem soundEs : ∀ (c : CEs) {S : Tab} {d : Nat} (es : List Expr) (sc : Scope), chkEs S sc c es = true → ∀ (X : Cx) (E : SK), Fine T S d sc X E → PA X es (TDA X.K E (denEs (callN T d) c))
  | .nil, S, d, es, sc, h, X, E, F => by
    cases es with
    | nil =>
      refine PA.imp pa_nil fun σ H Q ⟨ρ, env, m, er, mr, p⟩ => ?_
      rw [denEs] at p
      exact ok_now mr p [] .nil
    | cons _ _ => simp [chkEs] at h
  | .cons c r, S, d, es, sc, h, X, E, F => by
    cases es with
    | nil => simp [chkEs] at h
    | cons e es =>
      simp only [chkEs, Bool.and_eq_true] at h
      refine PA.imp (pa_cons (soundE c e sc h.1.1 X E F) (soundEs r es sc h.2 X E F) (star_plain h.1.2 es X.env)) fun σ H Q ⟨ρ, env, m, er, mr, p⟩ => ?_
      rw [denEs] at p
      refine (run2 er mr p).mono fun x H1 ⟨ρ1, m1, v1, e1, er1, mr1, r1, p1⟩ => (run2 er1 mr1 p1).mono fun xs H2 ⟨ρ2, m2, v2, e2, er2, mr2, r2, p2⟩ => ?_
      exact ok_now mr2 p2 _ (.cons (r1.ext e2) r2)
theorem soundKw : ∀ (c : CEs) {S : Tab} {d : Nat} (kws : List Keyword) (sc : Scope), chkEs S sc c (kws.map (·.value)) = true → ∀ (X : Cx) (E : SK), Fine T S d sc X E → PK X kws (TDA X.K E (denEs (callN T d) c))
  | .nil, S, d, es, sc, h, X, E, F => by
    cases es with
    | nil =>
      refine PK.imp pk_nil fun σ H Q ⟨ρ, env, m, er, mr, p⟩ => ?_
      rw [denEs] at p
      exact ok_now mr p [] .nil
    | cons _ _ => simp [chkEs] at h
  | .cons c r, S, d, es, sc, h, X, E, F => by
    cases es with
    | nil => simp [chkEs] at h
    | cons e es =>
      simp only [List.map_cons, chkEs, Bool.and_eq_true] at h
      obtain ⟨nm, e, kp⟩ := e
      refine PK.imp (pk_cons (soundE c e sc h.1.1 X E F) (soundKw r es sc h.2 X E F)) fun σ H Q ⟨ρ, env, m, er, mr, p⟩ => ?_
      rw [denEs] at p
      refine (run2 er mr p).mono fun x H1 ⟨ρ1, m1, v1, e1, er1, mr1, r1, p1⟩ => (run2 er1 mr1 p1).mono fun xs H2 ⟨ρ2, m2, v2, e2, er2, mr2, r2, p2⟩ => ?_
      exact ok_now mr2 p2 _ (.cons (r1.ext e2) r2)
theorem soundO : ∀ (c : CO) {S : Tab} {d : Nat} (o : Option Expr) (sc : Scope), chkO S sc c o = true → ∀ (X : Cx) (E : SK), Fine T S d sc X E → PO X o (TD (fun _ _ _ (a b : Option Int) => a = b) X.K E (denO (callN T d) c))
  | .no, S, d, o, sc, h, X, E, F => by
    cases o with
    | none =>
      refine PO.imp po_none fun σ H Q ⟨ρ, env, m, er, mr, p⟩ => ?_
      rw [denO] at p
      exact ok_now mr p none rfl
    | some _ => simp [chkO] at h
  | .so c, S, d, o, sc, h, X, E, F => by
    cases o with
    | none => simp [chkO] at h
    | some e =>
      simp only [chkO] at h
      refine PO.imp (po_some (soundE c e sc h X E F)) fun σ H Q ⟨ρ, env, m, er, mr, p⟩ => ?_
      rw [denO] at p
      refine (run2 er mr p).mono fun x H1 ⟨ρ1, m1, v1, e1, er1, mr1, r1, p1⟩ => ?_
      cases v1 with
      | loc l => exact False.elim p1
      | d dd =>
        cases dd with
        | int i => cases r1; exact ⟨i, rfl, ok_now mr1 p1 _ rfl⟩
        | _ => exact False.elim p1
theorem soundT : ∀ (c : CT) {S : Tab} {d : Nat} (e : Expr) (sc : Scope), chkT S sc c e = true → ∀ (X : Cx) (E : SK), Fine T S d sc X E → PT X e (TDT X.K E (denT (callN T d) c))
  | .v c, S, d, e, sc, h, X, E, F => by
    simp only [chkT, Bool.and_eq_true, Bool.or_eq_true] at h
    obtain ⟨h1, h2⟩ := h
    have ih := soundE c e sc h1 X E F
    rcases h2 with h2 | h2
    · refine ⟨fun pins s σ H Q I ⟨ρ, env, m, er, mr, p⟩ => isTrue_plain (thn (ih.run pins s σ H _ I ?_) fun v s1 ⟨x, H1, I1, r1, q1⟩ => tru_P pins s1 σ H1 x v Q I1 r1 q1) (truth_plain h2 X.env _)⟩
      rw [denT] at p
      refine (run2 er mr p).mono fun x H1 ⟨ρ1, m1, v1, e1, er1, mr1, r1, p1⟩ => ?_
      obtain ⟨d1, q1, p1⟩ := rdd_ok p1
      cases q2 : truP d1 with
      | none => simp only [q2] at p1; exact False.elim p1
      | some b => simp only [q2] at p1; exact ⟨ρ1, d1, b, rd_ok mr1 r1 q1, q2, ok_now mr1 p1 _ rfl⟩
    · split at h2
      · rename_i o a b
        simp only [chkE] at h1
        split at h1
        · simp only [Bool.and_eq_true, decide_eq_true_eq] at h1
          rename_i x o' y pos
          obtain ⟨⟨⟨rfl, h0⟩, h1⟩, h2⟩ := h1
          have hm := marks_of h0
          refine PT.imp (pt_cmpR (op_cmpP (room65 F.room) F.sy o) (soundE a x sc h1 X E F) (soundE b y sc h2 X E F) hm) fun σ H Q ⟨ρ, env, m, er, mr, p⟩ => ?_
          rw [denT, denE, bind_assoc'] at p
          refine (run2 er mr p).mono fun x H1 ⟨ρ1, m1, v1, e1, er1, mr1, r1, p1⟩ => ?_
          rw [bind_assoc'] at p1
          refine (run2 er1 mr1 p1).mono fun y H2 ⟨ρ2, m2, v2, e2, er2, mr2, r2, p2⟩ => ?_
          obtain ⟨d1, q1, p2⟩ := rdd_okB p2
          obtain ⟨d2, q2, p2⟩ := rdd_okB p2
          obtain ⟨dd, q3, p2⟩ := bol_okB p2
          exact ⟨ρ2, d1, d2, dd, mr2.own, rd_ok mr2 (r1.ext e2) q1, rd_ok mr2 r2 q2, q3, dd, rfl, ok_now mr2 p2 _ rfl⟩
        · cases h1
      · rename_i o1 o2 a b c
        simp only [chkE] at h1
        split at h1
        · simp only [Bool.and_eq_true, decide_eq_true_eq] at h1
          rename_i x p1 p2 y z pos
          obtain ⟨⟨⟨⟨⟨⟨rfl, rfl⟩, h0⟩, h00⟩, h1⟩, h2⟩, h3⟩ := h1
          have hm : lastMarks [o1, o2] [y, z] = false := by show behindInMarks o2 z = false; cases o2 <;> first | exact nomark _ | cases h00
          refine PT.imp (pt_chain (op_cmpP (room65 F.room) F.sy o1) (op_cmpP (room65 F.room) F.sy o2) (soundE a x sc h1 X E F) (soundE b y sc h2 X E F) (soundE c z sc h3 X E F) hm) fun σ H Q ⟨ρ, env, m, er, mr, p⟩ => ?_
          rw [denT, denE, bind_assoc'] at p
          refine (run2 er mr p).mono fun x H1 ⟨ρ1, m1, v1, e1, er1, mr1, r1, p1⟩ => ?_
          rw [bind_assoc'] at p1
          refine (run2 er1 mr1 p1).mono fun y H2 ⟨ρ2, m2, v2, e2, er2, mr2, r2, p2⟩ => ?_
          obtain ⟨d1, q1, p2⟩ := rdd_okB p2
          obtain ⟨d2, q2, p2⟩ := rdd_okB p2
          cases q3 : cmpP o1 d1 d2 with
          | none => simp only [q3] at p2; exact False.elim p2
          | some k =>
            simp only [q3] at p2
            refine ⟨ρ2, d1, d2, k, mr2.own, rd_ok mr2 (r1.ext e2) q1, rd_ok mr2 r2 q2, q3, k, rfl, ?_⟩
            cases k with
            | false => exact ⟨false, rfl, ok_now mr2 p2 _ rfl⟩
            | true =>
              simp only at p2
              rw [bind_assoc'] at p2
              refine (run2 er2 mr2 p2).mono fun w H3 ⟨ρ3, m3, v3, e3, er3, mr3, r3, p3⟩ => ?_
              obtain ⟨d3, q4, p3⟩ := rdd_okB p3
              obtain ⟨d4, q5, p3⟩ := rdd_okB p3
              obtain ⟨dd, q6, p3⟩ := bol_okB p3
              exact ⟨ρ3, d3, d4, dd, mr3.own, rd_ok mr3 (r2.ext e3) q4, rd_ok mr3 r3 q5, q6, dd, rfl, ok_now mr3 p3 _ rfl⟩
        · cases h1
      · rename_i neg a x ks
        simp only [chkE] at h1
        split at h1
        · rename_i y o z pz pos
          simp only [Bool.and_eq_true, decide_eq_true_eq] at h1
          obtain ⟨⟨⟨⟨⟨h0, rfl⟩, h1⟩, h2⟩, h3⟩, h4⟩ := h1
          obtain ⟨n1, n2, _⟩ := nm_of h2
          obtain ⟨dd, des, dn, g1, g2, g3⟩ := F.tb _ _ h3
          have hgl : PE X (.Name z pz) (tC (.ref dd)) := pe_glob (by show X.env.scope.names.lookup _ = _; rw [F.sc]; exact glo_of h1) g1 rfl n1
          cases neg with
          | true =>
            cases of_decide_eq_true h0
            refine PT.imp (pt_cmpR (op_notIn_kd g2) (soundE a y sc h4 X E F) hgl rfl) fun σ H Q ⟨ρ, env, m, er, mr, p⟩ => ?_
            rw [denT, denE, bind_assoc'] at p
            refine (run2 er mr p).mono fun x H1 ⟨ρ1, m1, v1, e1, er1, mr1, r1, p1⟩ => ?_
            match v1, r1, p1 with
            | .d (.str u), r1, p1 =>
              cases r1
              obtain ⟨r, k1, k2⟩ := g3 u
              exact ⟨u, r, rfl, rfl, k1, _, rfl, by rw [k2]; exact ok_now mr1 p1 _ rfl⟩
            | .d .none, _, p1 => exact False.elim p1
            | .d (.bool _), _, p1 => exact False.elim p1
            | .d (.int _), _, p1 => exact False.elim p1
            | .d (.list _), _, p1 => exact False.elim p1
            | .d (.tuple _), _, p1 => exact False.elim p1
            | .d (.dict _), _, p1 => exact False.elim p1
            | .loc _, _, p1 => exact False.elim p1
          | false =>
            cases of_decide_eq_true h0
            refine PT.imp (pt_cmpR (op_in_kd g2) (soundE a y sc h4 X E F) hgl rfl) fun σ H Q ⟨ρ, env, m, er, mr, p⟩ => ?_
            rw [denT, denE, bind_assoc'] at p
            refine (run2 er mr p).mono fun x H1 ⟨ρ1, m1, v1, e1, er1, mr1, r1, p1⟩ => ?_
            match v1, r1, p1 with
            | .d (.str u), r1, p1 =>
              cases r1
              obtain ⟨r, k1, k2⟩ := g3 u
              exact ⟨u, r, rfl, rfl, k1, _, rfl, by rw [k2]; exact ok_now mr1 p1 _ rfl⟩
            | .d .none, _, p1 => exact False.elim p1
            | .d (.bool _), _, p1 => exact False.elim p1
            | .d (.int _), _, p1 => exact False.elim p1
            | .d (.list _), _, p1 => exact False.elim p1
            | .d (.tuple _), _, p1 => exact False.elim p1
            | .d (.dict _), _, p1 => exact False.elim p1
            | .loc _, _, p1 => exact False.elim p1
        · cases h1
      · cases h2
  | .and_ ts, S, d, e, sc, h, X, E, F => by
    cases e with
    | BoolOp o xs pos =>
      cases o with
      | And =>
        simp only [chkT] at h
        exact PT.imp (soundTAnd ts xs pos sc h X E F).pt fun σ H Q ⟨ρ, env, m, er, mr, p⟩ => ⟨ρ, env, m, er, mr, by rw [denT] at p; exact p⟩
      | Or => simp [chkT] at h
    | _ => simp [chkT] at h
  | .or_ ts, S, d, e, sc, h, X, E, F => by
    cases e with
    | BoolOp o xs pos =>
      cases o with
      | Or =>
        simp only [chkT] at h
        exact PT.imp (soundTOr ts xs pos sc h X E F).pt fun σ H Q ⟨ρ, env, m, er, mr, p⟩ => ⟨ρ, env, m, er, mr, by rw [denT] at p; exact p⟩
      | And => simp [chkT] at h
    | _ => simp [chkT] at h
  | .not_ t, S, d, e, sc, h, X, E, F => by
    cases e with
    | UnaryOp o x pos =>
      cases o with
      | Not =>
        simp only [chkT] at h
        refine PT.imp (pt_not (soundT t x sc h X E F)) fun σ H Q ⟨ρ, env, m, er, mr, p⟩ => ?_
        rw [denT] at p
        refine (run2 (R := eqR) er mr p).mono fun v1 H1 ⟨ρ1, m1, v2, e1, er1, mr1, r1, p1⟩ => ?_
        cases r1
        exact ok_now mr1 p1 _ rfl
      | _ => simp [chkT] at h
    | _ => simp [chkT] at h
theorem soundTAnd : ∀ (c : CTs) {S : Tab} {d : Nat} (es : List Expr) (pos : Pos) (sc : Scope), chkTs S sc c es = true → ∀ (X : Cx) (E : SK), Fine T S d sc X E → PW X (.BoolOp .And es pos) (TDT X.K E (denTAnd (callN T d) c))
  | .nil, S, d, es, pos, sc, h, X, E, F => by simp [chkTs] at h
  | .cons t r, S, d, es, pos, sc, h, X, E, F => by
    match es, h with
    | [], h => simp [chkTs] at h
    | [e], h =>
      simp only [chkTs, Bool.and_eq_true] at h
      cases r with
      | cons _ _ => simp at h
      | nil =>
        refine PW.imp (pw_and1 (soundT t e sc h.1 X E F)) fun σ H Q ⟨ρ, env, m, er, mr, p⟩ => ?_
        rw [denTAnd] at p
        refine (run2 (R := eqR) er mr p).mono fun v1 H1 ⟨ρ1, m1, v2, e1, er1, mr1, r1, p1⟩ => ?_
        cases r1
        cases v1 with
        | true => rw [denTAnd] at p1; exact ok_now mr1 p1 _ rfl
        | false => exact ok_now mr1 p1 _ rfl
    | e :: f :: es, h =>
      simp only [chkTs, Bool.and_eq_true] at h
      refine PW.imp (pw_and (soundT t e sc h.1 X E F) (soundTAnd r (f :: es) pos sc h.2 X E F)) fun σ H Q ⟨ρ, env, m, er, mr, p⟩ => ?_
      rw [denTAnd] at p
      refine (run2 (R := eqR) er mr p).mono fun v1 H1 ⟨ρ1, m1, v2, e1, er1, mr1, r1, p1⟩ => ?_
      cases r1
      cases v1 with
      | true => rw [if_pos rfl]; exact ⟨ρ1, env, m1, er1, mr1, p1⟩
      | false => rw [if_neg Bool.false_ne_true]; exact ok_now mr1 p1 _ rfl
theorem soundTOr : ∀ (c : CTs) {S : Tab} {d : Nat} (es : List Expr) (pos : Pos) (sc : Scope), chkTs S sc c es = true → ∀ (X : Cx) (E : SK), Fine T S d sc X E → PW X (.BoolOp .Or es pos) (TDT X.K E (denTOr (callN T d) c))
  | .nil, S, d, es, pos, sc, h, X, E, F => by simp [chkTs] at h
  | .cons t r, S, d, es, pos, sc, h, X, E, F => by
    match es, h with
    | [], h => simp [chkTs] at h
    | [e], h =>
      simp only [chkTs, Bool.and_eq_true] at h
      cases r with
      | cons _ _ => simp at h
      | nil =>
        refine PW.imp (pw_or1 (soundT t e sc h.1 X E F)) fun σ H Q ⟨ρ, env, m, er, mr, p⟩ => ?_
        rw [denTOr] at p
        refine (run2 (R := eqR) er mr p).mono fun v1 H1 ⟨ρ1, m1, v2, e1, er1, mr1, r1, p1⟩ => ?_
        cases r1
        cases v1 with
        | false => rw [denTOr] at p1; exact ok_now mr1 p1 _ rfl
        | true => exact ok_now mr1 p1 _ rfl
    | e :: f :: es, h =>
      simp only [chkTs, Bool.and_eq_true] at h
      refine PW.imp (pw_or (soundT t e sc h.1 X E F) (soundTOr r (f :: es) pos sc h.2 X E F)) fun σ H Q ⟨ρ, env, m, er, mr, p⟩ => ?_
      rw [denTOr] at p
      refine (run2 (R := eqR) er mr p).mono fun v1 H1 ⟨ρ1, m1, v2, e1, er1, mr1, r1, p1⟩ => ?_
      cases r1
      cases v1 with
      | false => rw [if_neg Bool.false_ne_true]; exact ⟨ρ1, env, m1, er1, mr1, p1⟩
      | true => rw [if_pos rfl]; exact ok_now mr1 p1 _ rfl
theorem soundC : ∀ (c : CTs) {S : Tab} {d : Nat} (es : List Expr) (sc : Scope), chkC S sc c es = true → ∀ (X : Cx) (E : SK), Fine T S d sc X E → PTs X es (TDT X.K E (denTAnd (callN T d) c))
  | .nil, S, d, es, sc, h, X, E, F => by
    cases es with
    | nil =>
      refine ⟨fun pins s σ H Q I ⟨ρ, env, m, er, mr, p⟩ => pts_nil.run pins s σ H Q I ?_⟩
      rw [denTAnd] at p
      exact ok_now mr p _ rfl
    | cons _ _ => simp [chkC] at h
  | .cons t r, S, d, es, sc, h, X, E, F => by
    match es, h with
    | [], h => simp [chkC] at h
    | [e], h =>
      simp only [chkC, Bool.and_eq_true] at h
      cases r with
      | cons _ _ => simp at h
      | nil =>
        refine ⟨fun pins s σ H Q I ⟨ρ, env, m, er, mr, p⟩ => (pts_one (soundT t e sc h.1 X E F)).run pins s σ H Q I ?_⟩
        rw [denTAnd] at p
        refine (run2 (R := eqR) er mr p).mono fun v1 H1 ⟨ρ1, m1, v2, e1, er1, mr1, r1, p1⟩ => ?_
        cases r1
        cases v1 with
        | true => rw [denTAnd] at p1; exact ok_now mr1 p1 _ rfl
        | false => exact ok_now mr1 p1 _ rfl
    | _ :: _ :: _, h => simp [chkC] at h
theorem soundI : ∀ (c : CI) {S : Tab} {d : Nat} (e : Expr) (sc : Scope), chkI S sc c e = true → ∀ (X : Cx) (E : SK) {tg : Expr}, (isTupE tg = true ∨ tupI c = false) → Fine T S d sc X E → PI X tg e (TDI X.K E (denI (callN T d) c))
  | .e c, S, d, e, sc, h, X, E, tg, htg, F => by
    simp only [chkI, Bool.and_eq_true] at h
    refine PI.imp (pi_seq (soundE c e sc h.1 X E F)) fun σ H R ⟨ρ, env, m, er, mr, p⟩ => ?_
    rw [denI] at p
    refine (run2 er mr p).mono fun x H1 ⟨ρ1, m1, v1, e1, er1, mr1, r1, p1⟩ => ?_
    cases v1 with
    | d dd =>
      cases dd with
      | list ds =>
        cases r1 with
        | lst q hs =>
          exact ⟨_, rfl, .inl ⟨⟨_, Or.elim q (fun q => .inl q.1) WL.sq⟩, ok_now mr1 p1 _ (.inl ⟨false, _, rfl, .inl ⟨rfl, _, hs, q⟩⟩)⟩⟩
      | tuple ds =>
        cases r1 with
        | tup q hs =>
          exact ⟨_, rfl, .inr ⟨⟨_, Or.elim q (fun q => .inl q.1) WT.sq⟩, ok_now mr1 p1 _ (.inl ⟨true, _, rfl, .inr (.inl ⟨rfl, _, hs, q⟩)⟩)⟩⟩
      | _ => exact False.elim p1
    | loc l =>
      obtain ⟨a, rfl, ha⟩ := r1
      simp only [itsOf] at p1
      cases q : m1[l]? with
      | none => simp only [q] at p1; exact False.elim p1
      | some o =>
        simp only [q] at p1
        have r := mr1.ob l o a q ha
        cases o with
        | lst xs =>
          obtain ⟨vs, r1, r2⟩ := r
          exact ⟨a, rfl, .inl ⟨⟨vs, .inl (.inl r1)⟩, ok_now mr1 p1 _ (.inl ⟨false, a, rfl, .inr (.inr ⟨rfl, l, List.mem_singleton.mpr rfl, ha⟩)⟩)⟩⟩
        | dct _ => exact False.elim p1
        | ins _ _ => exact False.elim p1
        | tab _ => exact False.elim p1
  | .rng1 c, S, d, e, sc, h, X, E, tg, htg, F => by
    cases e with
    | Call fn xs kws pos =>
      simp only [chkI] at h
      split at h
      · rename_i _ y pn x _ he
        cases he
        simp only [Bool.and_eq_true, decide_eq_true_eq] at h
        obtain ⟨⟨⟨rfl, h1⟩, h2⟩, h3⟩ := h
        have hgl : Gl X ("range" : Str) := by show X.env.scope.names.lookup _ = _; rw [F.sc]; exact glo_of h1
        refine PI.imp (pi_range1 hgl (F.un _ (by decide +kernel)) (pa_cons (soundE c x sc h2 X E F) pa_nil (star_plain h3 _ X.env)) (star_plain h3 _ X.env)) fun σ H R ⟨ρ, env, m, er, mr, p⟩ => ?_
        rw [denI] at p
        refine (run2 er mr p).mono fun x H1 ⟨ρ1, m1, v1, e1, er1, mr1, r1, p1⟩ => ?_
        cases v1 with
        | loc l => exact False.elim p1
        | d dd =>
          cases dd with
          | int i =>
            cases r1
            simp only at p1
            split at p1
            · rename_i hr
              simp only [rngOk, Bool.and_eq_true, decide_eq_true_eq] at hr
              exact ⟨i, rfl, hr.1, hr.2, ok_now mr1 p1 _ (.inr (.inl ⟨0, i.toNat, rfl, by simp [rngL]⟩))⟩
            · exact False.elim p1
          | _ => exact False.elim p1
      · cases h
    | _ => simp [chkI] at h
  | .rng2 a b, S, d, e, sc, h, X, E, tg, htg, F => by
    cases e with
    | Call fn xs kws pos =>
      simp only [chkI] at h
      split at h
      · rename_i _ y pn x z _ he
        cases he
        simp only [Bool.and_eq_true, decide_eq_true_eq] at h
        obtain ⟨⟨⟨⟨⟨rfl, h1⟩, h2⟩, h3⟩, h4⟩, h5⟩ := h
        have hgl : Gl X ("range" : Str) := by show X.env.scope.names.lookup _ = _; rw [F.sc]; exact glo_of h1
        refine PI.imp (pi_range2 hgl (F.un _ (by decide +kernel)) (pa_cons (soundE a x sc h2 X E F) (pa_cons (soundE b z sc h4 X E F) pa_nil (star_plain h5 _ X.env)) (star_plain h3 _ X.env)) (by rw [star_plain h3, star_plain h5]; rfl) (star_plain h5 _ X.env)) fun σ H R ⟨ρ, env, m, er, mr, p⟩ => ?_
        rw [denI] at p
        refine (run2 er mr p).mono fun x H1 ⟨ρ1, m1, v1, e1, er1, mr1, r1, p1⟩ => (run2 er1 mr1 p1).mono fun y H2 ⟨ρ2, m2, v2, e2, er2, mr2, r2, p2⟩ => ?_
        split at p2
        · cases r1
          cases r2
          split at p2
          · rename_i hr
            simp only [rngOk, Bool.and_eq_true, decide_eq_true_eq] at hr
            exact ⟨_, _, rfl, ⟨hr.1.1, hr.1.2, hr.2.1, hr.2.2⟩, ok_now mr2 p2 _ (.inr (.inl ⟨_, _, rfl, rfl⟩))⟩
          · exact False.elim p2
        · exact False.elim p2
      · cases h
    | _ => simp [chkI] at h
  | .zip es, S, d, e, sc, h, X, E, tg, htg, F => by
    cases e with
    | Call fn xs kws pos =>
      simp only [chkI] at h
      split at h
      · rename_i _ y pn x xs _ he
        cases he
        simp only [Bool.and_eq_true, decide_eq_true_eq] at h
        obtain ⟨⟨⟨⟨rfl, h1⟩, h2⟩, h3⟩, h4⟩ := h
        have hgl : Gl X ("zip" : Str) := by show X.env.scope.names.lookup _ = _; rw [F.sc]; exact glo_of h1
        have htt : isTupE tg = true := htg.resolve_right (by simp [tupI])
        cases tg with
        | Tuple elts kk tp =>
          have hz : plainX x = true ∧ (backTo pos (starEach xs X.env)).any (·.1) = false := by
            cases es with
            | nil => simp [chkEs] at h4
            | cons c r => simp only [chkEs, Bool.and_eq_true] at h4; exact ⟨h4.1.2, any_plain r xs pos X.env h4.2⟩
          refine PI.imp (pi_zipN hgl (F.un _ (by decide +kernel)) (soundEs es (x :: xs) sc h4 X E F) (star_plain hz.1 xs X.env) hz.2) fun σ H R ⟨ρ, env, m, er, mr, p⟩ => ?_
          rw [denI] at p
          rw [len_bind] at p
          refine (run2 er mr p).mono fun vs H1 ⟨ρ1, m1, us, e1, er1, mr1, r1, p1⟩ => ?_
          by_cases hl : us.length = lenE es
          · rw [if_pos hl] at p1
            rcases itsAll_val us m1 with ⟨is, hi⟩ | hi
            · rw [hi] at p1
              obtain ⟨rows, h6, h7, h8⟩ := itsAll_rows mr1 r1 hi
              have l1 := r1.length
              rw [h6, List.length_map] at l1
              refine ⟨rows, h6, by omega, by omega, h8, ok_now mr1 p1 _ (.inr (.inr (.inl ⟨rows, _, rfl, ?_, by omega, h7, rfl⟩)))⟩
              rintro rfl
              have l0 : us.length = 0 := l1
              omega
            · rw [hi] at p1
              exact False.elim p1
          · rw [if_neg hl] at p1
            exact False.elim p1
        | _ => cases htt
      · cases h
    | _ => simp [chkI] at h
  | .enum c, S, d, e, sc, h, X, E, tg, htg, F => by
    cases e with
    | Call fn xs kws pos =>
      simp only [chkI] at h
      split at h
      · rename_i _ y pn x _ he
        cases he
        simp only [Bool.and_eq_true, decide_eq_true_eq] at h
        obtain ⟨⟨⟨rfl, h1⟩, h2⟩, h3⟩ := h
        have hgl : Gl X ("enumerate" : Str) := by show X.env.scope.names.lookup _ = _; rw [F.sc]; exact glo_of h1
        have htt : isTupE tg = true := htg.resolve_right (by simp [tupI])
        cases tg with
        | Tuple elts kk tp =>
          refine PI.imp (pi_enumN hgl (F.un _ (by decide +kernel)) (pa_cons (soundE c x sc h2 X E F) pa_nil (star_plain h3 [] X.env)) (star_plain h3 [] X.env)) fun σ H R ⟨ρ, env, m, er, mr, p⟩ => ?_
          rw [denI] at p
          refine (run2 er mr p).mono fun x H1 ⟨ρ1, m1, v1, e1, er1, mr1, r1, p1⟩ => ?_
          rcases itsOf_val v1 m1 with ⟨is, hi⟩ | hi
          · rw [hi] at p1
            obtain ⟨t, a, h6, h7, xs, h8⟩ := its_row mr1 r1 hi
            exact ⟨t, a, xs, by rw [h6], h8, ok_now mr1 p1 _ (.inr (.inr (.inr ⟨t, a, _, rfl, h7, rfl⟩)))⟩
          · rw [hi] at p1
            exact False.elim p1
        | _ => cases htt
      · cases h
    | _ => simp [chkI] at h
end
end
end Ev

set_option maxHeartbeats 4000000
/-! Ev: several targets. -/
namespace Ev
open PySem PySem.Spec PyProof.Rows L2
set_option autoImplicit false
def setAllV (σ : St) : List Nat → List V → St
  | i :: is, v :: vs => setAllV (σ.set i (some v)) is vs
  | _, _ => σ
theorem EnvR.setAll {K : PySem.W.Frag} {H : Hp} {ρ : List Addr} : ∀ {is : List Nat} {ds : List PyData} {vs : List V} {env : Sl} {σ : St}, EnvR K H ρ env σ → DRs K H ρ ds vs → EnvR K H ρ (setAll env is ds) (setAllV σ is vs)
  | [], _, _, _, _, h, r => by cases r <;> exact h
  | i :: is, _, _, _, _, h, .nil => h
  | i :: is, _, _, _, _, h, .cons (d := d) a b => EnvR.setAll (is := is) (h.set i (v := .d d) a) b
section
variable {X : Cx} {S : Tab} {sc : Scope}
theorem each_names : ∀ {is : List Nat} {es : List Expr}, chkN S sc is es = true → (assignEach es X.env).length = is.length ∧ (assignEach es X.env).findIdx? (·.1) = none
  | [], es, h => by
    cases es with
    | nil => exact ⟨rfl, rfl⟩
    | cons _ _ => simp [chkN] at h
  | i :: is, es, h => by
    simp only [chkN] at h
    split at h
    · rename_i x p es
      simp only [Bool.and_eq_true] at h
      obtain ⟨a, b⟩ := each_names h.2
      have e : assignEach (.Name x p :: es) X.env = (false, assign (.Name x p) X.env) :: assignEach es X.env := rfl
      refine ⟨by rw [e, List.length_cons, List.length_cons, a], ?_⟩
      rw [e, List.findIdx?_cons]
      simp [b]
    · cases h
theorem pgs_names (hN : X.N = S.N) (hnd : S.N.Nodup) (hsc : X.env.scope = sc) (hf : X.fn = fun _ => true) : ∀ {is : List Nat} {es : List Expr}, chkN S sc is es = true → PGs X es (fun vs σ H Q => vs.length = is.length ∧ Q (setAllV σ is vs) H)
  | [], es, h => by
    cases es with
    | cons _ _ => simp [chkN] at h
    | nil =>
      refine ⟨fun pins s σ H vs us Q I r q => pgs_nil.run pins s σ H vs us Q I r ?_⟩
      obtain ⟨hl, q⟩ := q
      have e : vs = [] := List.eq_nil_of_length_eq_zero hl
      subst e
      exact ⟨rfl, q⟩
  | i :: is, es, h => by
    simp only [chkN] at h
    split at h
    · rename_i x p es
      simp only [Bool.and_eq_true, decide_eq_true_eq] at h
      obtain ⟨⟨h1, h2⟩, h3⟩ := h
      have one := pgs_cons (pg_name (X := X) (pos := p) (i := i) (x := x) (by rw [hN]; exact hnd) (by rw [hN]; exact h1) (by rw [hsc]; exact loc_of h2) (.inl (by rw [hf]))) (pgs_names hN hnd hsc hf h3)
      refine ⟨fun pins s σ H vs us Q I r q => one.run pins s σ H vs us Q I r ?_⟩
      obtain ⟨hl, q⟩ := q
      cases vs with
      | nil => cases hl
      | cons v vs => exact ⟨v, vs, rfl, Nat.succ.inj hl, q⟩
    · cases h
end
theorem cell_ok {sc : Scope} {es : List Expr} {e : Expr} {k : Nat} {p : Pos} {env : PySem.Env} (hs : env.scope = sc) (h : cellB sc es e = true) : swappedStores [.Tuple es k p] e env = pure none := by
  subst hs
  unfold cellB at h
  split at h
  · rename_i x px y py a b k2 p2
    simp only [Bool.and_eq_true, Bool.or_eq_true, decide_eq_true_eq] at h
    obtain ⟨⟨h1, h6⟩, h7⟩ := h
    have sa : (match a with | .Starred .. => true | _ => false) = false := by cases a <;> first | rfl | cases h6
    have sb : (match b with | .Starred .. => true | _ => false) = false := by cases b <;> first | rfl | cases h7
    unfold swappedStores
    by_cases bk : env.blockKind = .function
    · simp only [bk]
      rcases h1 with h1 | h8
      · have hk : ¬ env.kindOf x = some .local ∨ ¬ env.kindOf y = some .local := h1
        rcases hk with hk | hk
        · by_cases hy : env.kindOf y = some .local ∧ py.line = (Expr.Name x px).pos.line
          · simp [sa, sb, hk, hy, List.filterMap_cons]
          · simp [sa, sb, hk, hy, List.filterMap_cons]
        · by_cases hy : env.kindOf x = some .local ∧ px.line = (Expr.Name x px).pos.line
          · simp [sa, sb, hk, hy, List.filterMap_cons]
          · simp [sa, sb, hk, hy, List.filterMap_cons]
      · simp only [h8]
        by_cases h9 : (!List.length [Expr.Name x px, Expr.Name y py] == 2) = true <;> simp [sa, sb, h8]
    · simp [bk]
  · cases h
section
variable {T : List Fd} {S : Tab} {d : Nat}
def gSeq (K : PySem.W.Frag) (n : Nat) (t : TGs) : TG := fun v σ H Q => ∃ a xs, v = .ref a ∧ (SqT K H a xs ∨ SqL K H a xs) ∧ xs.length = n ∧ t xs σ H Q
theorem pg_seq {X : Cx} {es : List Expr} {k n : Nat} {pos : Pos} {t : TGs} (hc : X.calm = true) (h : PGs X es t) (hn : (assignEach es X.env).length = n) (hst : (assignEach es X.env).findIdx? (·.1) = none) : PG X (.Tuple es k pos) (gSeq X.K n t) :=
  ⟨fun pins s σ H v u Q I r ⟨a, xs, e1, hq, hl, hw⟩ => hq.elim (fun q => (pg_tup hc h hn hst).run pins s σ H v u Q I r ⟨a, xs, e1, q, hl, hw⟩) fun q => (pg_lst hc h hn hst).run pins s σ H v u Q I r ⟨a, xs, e1, q, hl, hw⟩⟩
theorem sound_setT {is : List Nat} {c : CE} {es : List Expr} {e : Expr} {sc : Scope} {k : Nat} {p pos : Pos} (h1 : chkN S sc is es = true) (h2 : chkE S sc c e = true) (h3 : (plainU e || !plainC e || cellB sc es e) = true) {X : Cx} {E : SK} (F : Fine T S d sc X E) (hf : X.fn = (fun _ => true)) :
    PS X (.Assign [.Tuple es k p] e pos) (tAsg (TDE X.K E (denE (callN T d) c)) (gSeq X.K is.length (fun vs σ H Q => vs.length = is.length ∧ Q (setAllV σ is vs) H))) := by
  obtain ⟨a, b⟩ := each_names (X := X) h1
  refine ps_asg (soundE c e sc h2 X E F) (pg_seq F.calm (pgs_names F.N F.nd F.sc hf h1) a b) ?_ ?_ rfl
  · cases e <;> rfl
  · by_cases hc : cellB sc es e = true
    · exact cell_ok F.sc hc
    · rw [Bool.not_eq_true] at hc
      rw [hc, Bool.or_false] at h3
      cases e <;> first | rfl | cases h3
/-- what data stands as -/
theorem seq_of {K : PySem.W.Frag} {H : Hp} {ρ : List Addr} {x : PyData} {ds : List PyData} {v : V} (h : RDt K H ρ x v) (q : seqOf x = some ds) : ∃ a vs, v = .ref a ∧ (SqT K H a vs ∨ SqL K H a vs) ∧ DRs K H ρ ds vs := by
  cases x with
  | list xs => cases q; obtain ⟨a, vs, h1, h2, h3⟩ := h; exact ⟨a, vs, h1, .inr h2, h3⟩
  | tuple xs => cases q; obtain ⟨a, vs, h1, h2, h3⟩ := rdt_tup h; exact ⟨a, vs, h1, .inl h2, h3⟩
  | _ => cases q
section
variable {X : Cx} {sc : Scope}
theorem each_star : ∀ {is : List Nat} {j : Nat} {es : List Expr}, chkSt S sc is j es = true → (assignEach es X.env).length = is.length + 1 ∧ (assignEach es X.env).findIdx? (·.1) = some is.length
  | [], j, es, h => by
    simp only [chkSt] at h
    split at h
    · exact ⟨rfl, rfl⟩
    · cases h
  | i :: is, j, es, h => by
    simp only [chkSt] at h
    split at h
    · rename_i x p es
      simp only [Bool.and_eq_true] at h
      obtain ⟨a, b⟩ := each_star h.2
      have e : assignEach (.Name x p :: es) X.env = (false, assign (.Name x p) X.env) :: assignEach es X.env := rfl
      refine ⟨by rw [e, List.length_cons, a, List.length_cons], ?_⟩
      rw [e, List.findIdx?_cons, b]
      simp
    · cases h
theorem pgs_stars (hN : X.N = S.N) (hnd : S.N.Nodup) (hsc : X.env.scope = sc) (hf : X.fn = fun _ => true) : ∀ {is : List Nat} {j : Nat} {es : List Expr}, chkSt S sc is j es = true → PGs X es (fun vs σ H Q => ∃ us u, vs = us ++ [u] ∧ us.length = is.length ∧ Q ((setAllV σ is us).set j (some u)) H)
  | [], j, es, h => by
    simp only [chkSt] at h
    split at h
    · rename_i x p1 p2
      simp only [Bool.and_eq_true, decide_eq_true_eq] at h
      have one := pgs_star (X := X) (p := p2) (pg_name (X := X) (pos := p1) (i := j) (x := x) (by rw [hN]; exact hnd) (by rw [hN]; exact h.1) (by rw [hsc]; exact loc_of h.2) (.inl (by rw [hf])))
      refine ⟨fun pins s σ H vs us Q I r q => one.run pins s σ H vs us Q I r ?_⟩
      obtain ⟨xs, u, rfl, hl, q⟩ := q
      have e : xs = [] := List.eq_nil_of_length_eq_zero hl
      subst e
      exact ⟨u, rfl, q⟩
    · cases h
  | i :: is, j, es, h => by
    simp only [chkSt] at h
    split at h
    · rename_i x p es
      simp only [Bool.and_eq_true, decide_eq_true_eq] at h
      obtain ⟨⟨h1, h2⟩, h3⟩ := h
      have one := pgs_cons (pg_name (X := X) (pos := p) (i := i) (x := x) (by rw [hN]; exact hnd) (by rw [hN]; exact h1) (by rw [hsc]; exact loc_of h2) (.inl (by rw [hf]))) (pgs_stars hN hnd hsc hf h3)
      refine ⟨fun pins s σ H vs us Q I r q => one.run pins s σ H vs us Q I r ?_⟩
      obtain ⟨xs, u, rfl, hl, q⟩ := q
      cases xs with
      | nil => cases hl
      | cons v xs => exact ⟨v, xs ++ [u], rfl, xs, u, rfl, Nat.succ.inj hl, q⟩
    · cases h
end
theorem sound_setSt {is : List Nat} {j : Nat} {c : CE} {es : List Expr} {e : Expr} {sc : Scope} {k : Nat} {p pos : Pos} (h1 : chkSt S sc is j es = true) (h2 : chkE S sc c e = true) (h3 : plainU e = true) {X : Cx} {E : SK} (F : Fine T S d sc X E) (hf : X.fn = (fun _ => true)) :
    PS X (.Assign [.Tuple es k p] e pos) (tAsg (TDE X.K E (denE (callN T d) c)) (gStar X.K is.length (fun vs σ H Q => ∃ us u, vs = us ++ [u] ∧ us.length = is.length ∧ Q ((setAllV σ is us).set j (some u)) H))) := by
  obtain ⟨a, b⟩ := each_star (X := X) h1
  refine ps_asg (soundE c e sc h2 X E F) (pg_star F.calm (pgs_stars F.N F.nd F.sc hf h1) a b) ?_ ?_ rfl
  · cases e <;> first | rfl | cases h3
  · cases e <;> first | rfl | cases h3
end
end Ev

set_option maxHeartbeats 4000000
/-! Ev: a, b = x, y of plain local names. -/
namespace Ev
open PySem PySem.Spec PyProof.Rows L2
set_option autoImplicit false
theorem par_ok {sc : Scope} {x y : Str} {px py pt pt2 : Pos} {a b : Expr} {kt k2 : Nat} {env : PySem.Env} (hs : env.scope = sc) (h : parB sc x y px py a b = true) : swappedStores [.Tuple [.Name x px, .Name y py] kt pt] (.Tuple [a, b] k2 pt2) env = pure (some [x, y]) := by
  subst hs
  simp only [parB, Bool.and_eq_true, decide_eq_true_eq, Bool.not_eq_true'] at h
  obtain ⟨⟨⟨⟨⟨⟨⟨⟨h1, h2⟩, h3⟩, h4⟩, h5⟩, h6⟩, h7⟩, h8⟩, h9⟩ := h
  have kx : env.kindOf x = some .local := h2
  have ky : env.kindOf y = some .local := h3
  have bk : env.blockKind = .function := by
    unfold PySem.Env.blockKind
    rw [h1]
    split <;> rfl
  have sa : (match a with | .Starred .. => true | _ => false) = false := by cases a <;> first | rfl | cases h6
  have sb : (match b with | .Starred .. => true | _ => false) = false := by cases b <;> first | rfl | cases h7
  have hyx : (y == x) = false := by
    have : ¬ x = y := by simpa using h5
    simpa using fun e : y = x => this e.symm
  have hl : py.line = px.line := by simpa using h4
  have fm : List.filterMap (fun z : Expr => match z with
      | Expr.Name id pos => if (env.kindOf id == some .local && pos.line == px.line) = true then some id else none
      | _ => none) [Expr.Name x px, Expr.Name y py] = [x, y] := by
    simp [List.filterMap_cons, kx, ky, hl]
  have ed : [x, y].eraseDups.length = 2 := by
    simp [List.eraseDups_cons, hyx]
  unfold swappedStores
  simp only [bk]
  have hp : (Expr.Name x px).pos = px := rfl
  simp [sa, sb, h8, h9, kx, ky, hl, hp, List.filterMap_cons, ed]
  rintro (hh | hh)
  · exfalso
    cases a <;> first | (cases h6; done) | (cases hh; done)
  · exfalso
    cases b <;> first | (cases h7; done) | (cases hh; done)
section
variable {T : List Fd} {S : Tab} {d : Nat}
/-- a, b = x, y -/
theorem sound_par {i j : Nat} {ca cb : CE} {x y : Str} {a b : Expr} {sc : Scope} {px py pt pt2 pos : Pos} {kt k2 : Nat} (hi : S.N[i]? = some x) (hj : S.N[j]? = some y) (hp : parB sc x y px py a b = true) (h1 : chkE S sc ca a = true) (h2 : chkE S sc cb b = true) {X : Cx} {E : SK} (F : Fine T S d sc X E) :
    PS X (.Assign [.Tuple [.Name x px, .Name y py] kt pt] (.Tuple [a, b] k2 pt2) pos) (fun D σ H => TDE X.K E (denE (callN T d) ca) σ H fun v H1 => TDE X.K E (denE (callN T d) cb) σ H1 fun u H2 => D.nx ((σ.set i (some v)).set j (some u)) H2) := by
  have w := par_ok (kt := kt) (k2 := k2) (pt := pt) (pt2 := pt2) F.sc hp
  simp only [parB, Bool.and_eq_true, decide_eq_true_eq, Bool.not_eq_true'] at hp
  obtain ⟨⟨⟨⟨⟨⟨⟨⟨p1, p2⟩, p3⟩, p4⟩, p5⟩, p6⟩, p7⟩, p8⟩, p9⟩ := hp
  have hij : i ≠ j := fun e => by
    subst e
    rw [hi] at hj
    cases hj
    simp at p5
  refine PS.imp (ps_par F.calm (by rw [F.N]; exact F.nd) (by rw [F.N]; exact hi) (by rw [F.N]; exact hj) hij (by rw [F.sc]; exact p2) (by rw [F.sc]; exact p3)
    (pa_cons (soundE ca a sc h1 X E F) (pa_cons (soundE cb b sc h2 X E F) pa_nil (star_plain p7 _ X.env)) (star_plain p6 _ X.env)) w) fun D σ H q => ?_
  exact TD.mono q fun v H1 q1 => TD.mono q1 fun u H2 q2 => ⟨v, u, rfl, q2⟩
end
end Ev

set_option maxHeartbeats 4000000
/-! Ev: do = TABLE[word]; x = do(..). -/
namespace Ev
open PySem PySem.Spec PyProof.Rows L2
set_option autoImplicit false
section
variable {X : Cx} {x : Str} {p pos : Pos}
theorem pe_opF {dk : Addr} {es : Array DictEntry} {n : Nat} {k : Expr} {tk : TE} (hg : Gl X x) (hm : X.mg x = some (.ref dk)) (hd : (x == ("__debug__" : Str)) = false) (D : KDict X.K X.w dk es n) (hb : PE X k tk) (hs : PlainIx k) :
    PE X (.Subscript (.Name x p) k pos) (fun σ H Q => tk σ H fun y H1 => ∃ z a, y = .str z ∧ PySem.W.nsIn X.K dk z = some (some (.ref a)) ∧ Q (.ref a) H1) := by
  refine ⟨fun pins s σ H Q I h => ?_⟩
  refine subD_of slot_dict_getitem.lookup hs (thn ((pe_glob (v := .ref dk) hg hm rfl hd).run pins s σ H (fun v H1 => v = .ref dk ∧ H1 = H) I ⟨rfl, rfl⟩) fun o s1 ⟨v, H1, I1, r1, e1, e2⟩ => ?_)
  subst e1 e2
  cases r1
  refine thn (hb.run pins s1 σ _ _ I1 h) fun i s2 ⟨y, H2, I2, r2, z, a, ey, q1, q2⟩ => ⟨kd_type D I2, ?_⟩
  exact op_item_kd D pins s2 σ H2 (.ref dk) y _ _ Q I2 rfl r2 ⟨z, .ref a, .ref a, rfl, ey, q1, rfl, q2⟩
/-- a call of a local that holds a def -/
theorem pe_callV {CX : CXT} {k i : Nat} {E : St → XK} {e : Expr} {es : List Expr} {t : TA} (hr : Room k X.A) (hgu : X.A.guards = some []) (hN : X.N[i]? = some x) (hv : Vis X.env.scope x) (hx : ∀ σ, PassesAt CX X σ (E σ)) (ha : PA X (e :: es) t) (n1 : (x == ("__debug__" : Str)) = false) (n2 : (x == ("__classdict__" : Str)) = false)
    (he : starEach (e :: es) X.env = (false, eval e X.env) :: starEach es X.env) (hpl : (backTo pos (starEach es X.env)).any (·.1) = false) :
    PE X (.Call (.Name x p) (e :: es) [] pos) (fun σ H Q => ∃ f fd ps sp, σ[i]? = some (some (.ref f)) ∧ PySem.W.keepIn X.K (.ref f) = true ∧ Binds X.K fd ps [] ∧ FnP X.prog X.w X.K X.mg X.base CX k f fd ps sp ∧ t σ H fun vs H1 => sp vs H1 Q (E σ)) := by
  refine ⟨fun pins s σ H Q I ⟨f, fd, ps, sp, hs, hk, hb, F, ht⟩ => ?_⟩
  refine wpAny_Call_Name_kw (thn ((pe_var (pos := p) hN hv n1 n2).run pins s σ H (fun v H1 => v = .ref f ∧ H1 = H) I ⟨.ref f, hs, rfl, rfl⟩) fun u s1 ⟨v, H1, I1, r1, e1, e2⟩ => ?_)
  subst e1 e2
  cases r1
  exact PySem.W.callWith_K (h₀ := X.base) I.ok.mod.kin hk (thn (ha.run pos pins s1 σ _ _ I1 ht) fun us s2 ⟨vs, H2, I2, r, q⟩ => ⟨I2.kIn, runPS F hr hgu hb (hx σ) I2 r q⟩) he hpl
end
end Ev

set_option maxHeartbeats 4000000
/-! Ev: statements, functions. -/
namespace Ev
open PySem PySem.Spec PyProof.Rows L2
set_option autoImplicit false

def EndR (K : PySem.W.Frag) (D : Ends) (q : Fl × Sl) (H : Hp) (ρ : List Addr) : Prop :=
  match q.1 with
  | .nx => ∀ σ, EnvR K H ρ q.2 σ → D.nx σ H
  | .ret v => ∀ x, VR K H ρ v x → D.rt x H
  | .brk => ∀ σ, EnvR K H ρ q.2 σ → D.bk σ H
  | .cont => ∀ σ, EnvR K H ρ q.2 σ → D.ct σ H
def TDS (K : PySem.W.Frag) (E : EK) (f : Sl → Mem → Res (Fl × Sl)) : TS := fun D σ H => ∃ ρ env m, EnvR K H ρ env σ ∧ MR K H ρ m ∧ Post K E H ρ (f env m) fun q _ H' ρ' => EndR K D q H' ρ'

theorem for_run {K : PySem.W.Frag} {E : EK} {tg : Tg} {b : Sl → Mem → Res (Fl × Sl)} {src : List (Nat × List PyData)} {items : List PyData} {J : It} {m0 : Mem} {H0 : Hp} {ρ0 : List Addr} {σ : St} {env : Sl} {D : Ends}
    (hit : ItsR K H0 ρ0 m0 ⟨items, src⟩ J) (er : EnvR K H0 ρ0 env σ) (mr : MR K H0 ρ0 m0) (p : Post K E H0 ρ0 (forLoop src tg b items env m0) fun q _ H' ρ' => EndR K D q H' ρ') :
    ∃ W : Nat → Nat → St → Hp → Prop, (∃ n, W 0 n σ H0) ∧ ∀ i n σ H, W i n σ H →
      (J.stop i H ∧ D.nx σ H) ∨ (J.go i H ∧ ∃ N : St → Hp → Prop, (∀ σ' H', N σ' H' → ∃ n', n' < n ∧ W (i + 1) n' σ' H') ∧ ∀ x H', J.yld i H x H' → gTgt K tg x σ H' fun σ2 H2 => TDS K E b { D with nx := N, ct := N, bk := D.nx } σ2 H2) := by
  let W : Nat → Nat → St → Hp → Prop := fun i n σ H => n = items.length - i ∧ i ≤ items.length ∧ ∃ ρ env m, Ext H0 ρ0 H ρ ∧ EnvR K H ρ env σ ∧ MR K H ρ m ∧ Post K E H ρ (forLoop src tg b (items.drop i) env m) fun q _ H' ρ' => EndR K D q H' ρ'
  refine ⟨W, ⟨items.length, by simp, Nat.zero_le _, ρ0, env, m0, .refl _ _, er, mr, by rw [List.drop_zero]; exact p⟩, ?_⟩
  rintro i n σ H ⟨rfl, hi, ρ, env, m, ex, er, M, p⟩
  have sm : same m src = true := by
    cases hd : items.drop i with
    | nil =>
      rw [hd] at p
      unfold forLoop at p
      split at p
      · assumption
      · exact False.elim p
    | cons d r =>
      rw [hd] at p
      unfold forLoop at p
      split at p
      · assumption
      · exact False.elim p
  obtain ⟨st1, st2⟩ := its_step hit ex M sm
  by_cases hlt : i < items.length
  · have hdr : items.drop i = items[i] :: items.drop (i + 1) := List.drop_eq_getElem_cons hlt
    obtain ⟨g1, g2⟩ := st1 i items[i] (List.getElem?_eq_getElem hlt)
    refine .inr ⟨g1, W (i + 1) (items.length - (i + 1)), fun σ' H' w => ⟨_, by omega, w⟩, fun x H' y => ?_⟩
    obtain ⟨sH, dx⟩ := g2 x H' y
    have exS : Ext H ρ H' ρ := sext sH
    have MS := M.same sH
    rw [hdr] at p
    unfold forLoop at p
    rw [if_pos sm] at p
    cases qb : bindT tg items[i] env with
    | none => rw [qb] at p; exact False.elim p
    | some env1 =>
    rw [qb] at p
    simp only at p
    refine tg_run (vs := tg.slots) tg qb dx ((er.ext exS).x fun _ => False) fun σ2 er2 _ => ?_
    have p := Post.ext exS p
    have ex := ex.trans exS
    refine ⟨ρ, _, m, er2.r (fun _ h => h.1), MS, p.bind.imp fun r m1 H1 ρ1 e1 M1 p1 => ?_⟩
    obtain ⟨fl, env1⟩ := r
    cases fl with
    | nx => exact fun σ1 er1 => ⟨rfl, hlt, ρ1, env1, m1, ex.trans e1, er1, M1, p1⟩
    | cont => exact fun σ1 er1 => ⟨rfl, hlt, ρ1, env1, m1, ex.trans e1, er1, M1, p1⟩
    | brk => exact fun σ1 er1 => ok_now M1 p1 σ1 er1
    | ret u => exact fun x1 r1 => ok_now M1 p1 x1 r1
  · have e : i = items.length := by omega
    subst e
    rw [List.drop_length] at p
    unfold forLoop at p
    rw [if_pos sm] at p
    exact .inl ⟨st2, ok_now M p σ er⟩

theorem wh_run {K : PySem.W.Frag} {E : EK} {c : Sl → Mem → Res Bool} {b : Sl → Mem → Res (Fl × Sl)} {n0 : Nat} {m0 : Mem} {H0 : Hp} {ρ0 : List Addr} {σ : St} {env : Sl} {D : Ends}
    (er : EnvR K H0 ρ0 env σ) (mr : MR K H0 ρ0 m0) (p : Post K E H0 ρ0 (whLoop c b n0 env m0) fun q _ H' ρ' => EndR K D q H' ρ') :
    tWhile (TDT K (fun _ => E) c) (TDS K E b) D σ H0 := by
  refine ⟨fun n σ H => ∃ ρ env m, EnvR K H ρ env σ ∧ MR K H ρ m ∧ Post K E H ρ (whLoop c b n env m) fun q _ H' ρ' => EndR K D q H' ρ', ⟨n0, ρ0, env, m0, er, mr, p⟩, ?_⟩
  rintro n σ H ⟨ρ, env, m, er, M, p⟩
  cases n with
  | zero => exact False.elim p
  | succ n =>
    unfold whLoop at p
    refine (run2 (E := fun _ => E) (R := eqR) er M p).mono fun t H1 ⟨ρ1, m1, v1, e1, er1, mr1, r1, p1⟩ => ?_
    cases r1
    cases t with
    | false => rw [if_neg Bool.false_ne_true]; exact ok_now mr1 p1 σ er1
    | true =>
      rw [if_pos rfl]
      refine ⟨fun σ' H' => ∃ ρ env m, EnvR K H' ρ env σ' ∧ MR K H' ρ m ∧ Post K E H' ρ (whLoop c b n env m) fun q _ H' ρ' => EndR K D q H' ρ', fun σ' H' w => ⟨n, Nat.lt_succ_self n, w⟩, ρ1, env, m1, er1, mr1, p1.bind.imp fun r m2 H2 ρ2 e2 M2 p2 => ?_⟩
      obtain ⟨fl, env1⟩ := r
      cases fl with
      | nx => exact fun σ1 er1 => ⟨ρ2, env1, m2, er1, M2, p2⟩
      | cont => exact fun σ1 er1 => ⟨ρ2, env1, m2, er1, M2, p2⟩
      | brk => exact fun σ1 er1 => ok_now M2 p2 σ1 er1
      | ret u => exact fun x1 r1 => ok_now M2 p2 x1 r1

theorem setIx_ok {K : PySem.W.Frag} {E : EK} {H : Hp} {ρ : List Addr} {m m' : Mem} {o i v : Vl} {x y z : V} {α : Type} {a : α} {k : α → Mem → Hp → List Addr → Prop} (M : MR K H ρ m) (ro : VR K H ρ o x) (ri : VR K H ρ i y) (rv : VR K H ρ v z)
    (h : setIx o i v m = some m') (p : Post K E H ρ (.ok a m') k) : rSetL x y z H fun H' => ∃ ρ', Ext H ρ H' ρ' ∧ MR K H' ρ' m' ∧ k a m' H' ρ' := by
  match o, i, v, ro, ri, rv, h with
  | .loc l, .d (.int n), .d dv, ro, ri, rv, h =>
    obtain ⟨A, rfl, ha⟩ := ro
    cases ri
    simp only [setIx] at h
    cases q : m[l]? with
    | none => simp only [q] at h; cases h
    | some ob =>
      simp only [q] at h
      have r := M.ob l ob A q ha
      cases ob with
      | lst xs =>
        simp only at h
        cases q2 : ixN xs.length n with
        | none => simp only [q2] at h; cases h
        | some j =>
          simp only [q2] at h
          cases h
          obtain ⟨vs, r1, r2⟩ := r
          refine ⟨A, vs, n, j, rfl, rfl, r1, by rw [← r2.length]; exact q2, ?_⟩
          have exu : Ext H ρ (upd H A (.lst (vs.set j z))) ρ := ⟨⟨[], by simp⟩, fun b u w nb _ => ⟨by
            have ne : b ≠ A := fun e => nb (by rw [e]; exact List.mem_of_getElem? ha)
            rw [upd_ne ne]
            exact w, nb⟩⟩
          obtain ⟨M2, e2⟩ := M.put (o := .lst (vs.set j z)) (ob := .lst (xs.set j dv)) ha ⟨_, upd_same, (r2.ext exu).set j (DR.ext exu rv)⟩
          exact ⟨ρ, e2, M2, p _ _ e2 M2⟩
      | dct _ => cases h
      | ins _ _ => cases h
      | tab _ => cases h
  | .loc l, .d .none, _, _, _, _, h => cases h
  | .loc l, .d (.bool _), _, _, _, _, h => cases h
  | .loc l, .d (.str _), _, _, _, _, h => cases h
  | .loc l, .d (.list _), _, _, _, _, h => cases h
  | .loc l, .d (.tuple _), _, _, _, _, h => cases h
  | .loc l, .d (.dict _), _, _, _, _, h => cases h
  | .loc l, .loc _, _, _, _, _, h => cases h
  | .loc l, .d (.int _), .loc _, _, _, _, h => cases h
  | .d _, _, _, _, _, _, h => cases h
theorem isL_ty {K : PySem.W.Frag} {H : Hp} {ρ : List Addr} {m : Mem} {v : Vl} {x : V} (M : MR K H ρ m) (r : VR K H ρ v x) (h : isL v m = true) : tyV K "list" x H := by
  match v, r, h with
  | .loc l, r, h =>
    obtain ⟨A, rfl, ha⟩ := r
    cases q : m[l]? with
    | none => simp [isL, q] at h
    | some ob =>
      have rr := M.ob l ob A q ha
      cases ob with
      | lst xs =>
        obtain ⟨vs, q1, q2⟩ := rr
        exact .inl ⟨rfl, vs, .inl (.inl q1)⟩
      | dct _ => simp [isL, q] at h
      | ins _ _ => simp [isL, q] at h
      | tab _ => simp [isL, q] at h
theorem apIx_run {α : Type} {K : PySem.W.Frag} {E : EK} {H1 H2 : Hp} {ρ1 ρ2 : List Addr} {m2 : Mem} {v1 v2 : Vl} {x y : V} {f : Mem → Res α} {k : α → Mem → Hp → List Addr → Prop} (e2 : Ext H1 ρ1 H2 ρ2) (r1 : VR K H1 ρ1 v1 x) (mr2 : MR K H2 ρ2 m2) (r2 : VR K H2 ρ2 v2 y)
    (p2 : Post K E H2 ρ2 (match apIx v1 v2 m2 with | some m3 => f m3 | none => .stk) k) {Q : VK} (hQ : ∀ H' ρ' m3, Ext H2 ρ2 H' ρ' → MR K H' ρ' m3 → Post K E H' ρ' (f m3) k → Q .non H') : rAppend x [y] H2 Q := by
  match v1, v2, r1, r2, p2 with
  | .loc l, .d dv, r1, r2, p2 =>
    obtain ⟨A, rfl, ha⟩ := VR.ext e2 r1
    cases q : m2[l]? with
    | none => simp only [apIx, q] at p2; exact False.elim p2
    | some ob =>
      have rr := mr2.ob l ob A q ha
      cases ob with
      | lst xs =>
        simp only [apIx, q] at p2
        split at p2
        · rename_i m3 hz
          split at hz
          · rename_i hz1
            cases hz
            obtain ⟨vs, q1, q2⟩ := rr
            refine ⟨A, vs, y, rfl, rfl, q1, by rw [← q2.length]; exact hz1, ?_⟩
            have exu : Ext H2 ρ2 (upd H2 A (.lst (vs ++ [y]))) ρ2 := ⟨⟨[], by simp⟩, fun b u w nb _ => ⟨by
              have ne : b ≠ A := fun e => nb (by rw [e]; exact List.mem_of_getElem? ha)
              rw [upd_ne ne]
              exact w, nb⟩⟩
            obtain ⟨M3, e3⟩ := mr2.put (o := .lst (vs ++ [y])) (ob := .lst (xs ++ [dv])) ha ⟨_, upd_same, (q2.ext exu).append (.cons (DR.ext exu r2) .nil)⟩
            exact hQ _ _ _ e3 M3 (Post.ext e3 p2)
          · cases hz
        · exact False.elim p2
      | dct _ => simp only [apIx, q] at p2; exact False.elim p2
      | ins _ _ => simp only [apIx, q] at p2; exact False.elim p2
      | tab _ => simp only [apIx, q] at p2; exact False.elim p2
  | .loc l, .loc _, _, _, p2 => exact False.elim p2
  | .d _, _, _, _, p2 => exact False.elim p2
section
variable {T : List Fd} {S : Tab} {d : Nat}
/-- what a value's expression is, for a store: a comprehension, or plain -/
theorem chk_plain : ∀ (c : CE) (e : Expr) (sc : Scope), chkE S sc c e = true → plainC e = true ∨ ∃ own t xs src cc ce, c = .lc own t xs src cc ce := by
  intro c e sc h
  cases c with
  | lc own v x src cc ce => exact .inr ⟨_, _, _, _, _, _, rfl⟩
  | _ =>
    left
    cases e <;> first
      | rfl
      | (simp [chkE] at h; done)
theorem sw_lc {elt : Expr} {gs : List Comprehension} {scope : Scope} {pos py : Pos} {y : Str} {l : Nat} {env : PySem.Env} : ∃ b : Bool, swapsWith (.ListComp elt gs scope pos) (some (.Name y py)) l env = pure b ∧ (b = true → env.kindOf y = some .local) := by
  refine ⟨(env.blockKind == .function && env.kindOf y == some .local && py.line == pos.line && !(scope.names.any fun (n, k) => n == y && (k == .local || k == .cell))), rfl, fun h => ?_⟩
  simp only [Bool.and_eq_true] at h
  exact eq_of_beq h.1.1.2
theorem set_lc {c : CE} {own : Bool} {t : Tg} {xs : List Str} {src : CI} {cc : CTs} {ce : CE} {e : Expr} {sc : Scope} (h : chkE S sc (.lc own t xs src cc ce) e = true) {X : Cx} {E : SK} (F : Fine T S d sc X E) {i : Nat} {y : Str} {py spos : Pos} (hi : X.N[i]? = some y)
    (hl : Loc X.env.scope y) (hf : X.fn = (fun _ => true)) : PS X (.Assign [.Name y py] e spos) (tAsg (TDE X.K E (denE (callN T d) (.lc own t xs src cc ce))) (gName i)) := by
  have pe := soundE _ e sc h X E F
  simp only [chkE] at h
  split at h
  · rename_i elt tg iter ifs scope pos
    obtain ⟨b, hsw, hb⟩ := sw_lc (elt := elt) (gs := [⟨tg, iter, ifs, 0⟩]) (scope := scope) (pos := pos) (py := py) (y := y) (l := spos.line) (env := X.env)
    cases b with
    | false => exact ps_set (i := i) (by rw [F.N]; exact F.nd) hi hl pe hsw (.inl (by rw [hf]))
    | true =>
      simp only [Bool.and_eq_true, Bool.or_eq_true, Bool.not_eq_true', decide_eq_true_eq] at h
      obtain ⟨⟨⟨⟨⟨⟨h0, h1⟩, ht⟩, h2⟩, hti⟩, h3⟩, h4⟩ := h
      have okB : BlkOk X.N X.env.scope scope (xs.zip t.slots) := by rw [F.N, F.sc]; exact blkOk_by h1
      have eo : (xs.zip t.slots).map (·.2) = t.slots := List.map_snd_zip (by omega)
      have go := ps_setLcE (X := X) (elt := elt) (tg := tg) (iter := iter) (ifs := ifs) (scope := scope) (own := xs.zip t.slots) (pos := pos) (spos := spos) (wi := TDI X.K E (denI (callN T d) src)) (g := gTgt X.K t) (tt := fun σ => TDT X.K (fun _ => E σ) (denTAnd (callN T d) cc)) (te := fun σ => TDE X.K (fun _ => E σ) (denE (callN T d) ce))
          (W := WK X.K X.mg E) (W' := fun σ => WK X.K X.mg (fun _ => E σ)) F.tk (fun _ _ _ _ _ w => w) F.calm (by rw [F.N]; exact F.nd) hi (hb rfl) hsw (soundI src iter sc h2 X E hti F) okB
          (fun σ s H C L cl fp => pg_tgt (X := blkE X s H scope (compEnvC scope cl C X.env) fp L (WK X.K X.mg fun _ => E σ)) (p := lcP sc scope) F.calm (by show X.N.Nodup; rw [F.N]; exact F.nd) (lcP_p (by show relS scope X.env.scope = _; rw [F.sc]) rfl) t tg (by show chkTg X.N _ _ _ = true; rw [F.N]; exact ht))
          (fun σ s H C L cl fp tk => soundC cc ifs (relS scope sc) h3 _ _ (F.blk s H scope C cl fp tk)) (fun σ s H C L cl fp tk => soundE ce elt (relS scope sc) h4 _ _ (F.blk s H scope C cl fp tk)) (fun z => set_of_I src iter h2 X.env z)
      rw [eo] at go
      refine PS.imp go fun D σ H ⟨ρ, env, m, er, mr, p⟩ => ?_
      rw [denE] at p
      refine ⟨ρ, env, m, er, mr, p.bind.imp fun its m1 H1 ρ1 e1 M1 p1 J hJ DD hD => ?_⟩
      exact lc_run hJ rfl (er.ext e1) M1 rfl hD p1.bind0 fun m2 H2 ρ2 e2 M2 at2 p2 => close_run M1.len e2 M2 p2 _ ⟨DD, rfl, at2⟩
  · cases h
/-- of a statement whose slots stand where it lets something out: the wish by the slots -/
def TDF (K : PySem.W.Frag) (E : SK) (f : Sl → Mem → Res (Fl × Sl)) : TS := fun D σ H => ∃ ρ env m, EnvR K H ρ env σ ∧ MR K H ρ m ∧ Post K (E σ) H ρ (f env m) fun q _ H' ρ' => EndR K D q H' ρ'
theorem soundF (c : CS) (s : Stmt) (sc : Scope) (hfl : flatB c = true) (h : chkS S sc c s = true) (X : Cx) (E : SK) (F : Fine T S d sc X E) (hf : X.fn = (fun _ => true)) : PS X s (TDF X.K E (denS (callN T d) c)) := by
  cases c with
  | set i c =>
    simp only [chkS] at h
    split at h
    · rename_i x px e pos
      simp only [Bool.and_eq_true, decide_eq_true_eq] at h
      obtain ⟨⟨h1, h2⟩, h3⟩ := h
      have pe := soundE c e sc h3 X E F
      have fin : ∀ (D : Ends) (σ : St) (H : Hp), TDF X.K E (denS (callN T d) (.set i c)) D σ H → tAsg (TDE X.K E (denE (callN T d) c)) (gName i) D σ H := fun D σ H ⟨ρ, env, m, er, mr, p⟩ => by
        rw [denS] at p
        refine (run2 er mr p).mono fun x H1 ⟨ρ1, m1, v1, e1, er1, mr1, r1, p1⟩ => ?_
        exact ok_now mr1 p1 _ (er1.set i r1)
      have hi : X.N[i]? = some x := by rw [F.N]; exact h1
      have hl : Loc X.env.scope x := by rw [F.sc]; exact loc_of h2
      rcases chk_plain c e sc h3 with hpl | ⟨own, v, y, src, cc, ce, rfl⟩
      · exact PS.imp (ps_set (i := i) (by rw [F.N]; exact F.nd) hi hl pe (sw_plain hpl _ _ _) (.inl (by rw [hf]))) fin
      · exact PS.imp (set_lc (c := .var 0) h3 F hi hl hf) fin
    · cases h
  | ret c =>
    simp only [chkS] at h
    split at h
    · rename_i e pos
      refine PS.imp (ps_ret (soundE c e sc h X E F)) fun D σ H ⟨ρ, env, m, er, mr, p⟩ => ?_
      rw [denS] at p
      refine (run2 er mr p).mono fun x H1 ⟨ρ1, m1, v1, e1, er1, mr1, r1, p1⟩ => ?_
      exact ok_now mr1 p1 x r1
    · cases h
  | expr c =>
    simp only [chkS] at h
    split at h
    · rename_i e pos
      simp only [Bool.and_eq_true] at h
      refine PS.imp (ps_expr (soundE c e sc h.1 X E F) (sw_plain h.2 _ _ _)) fun D σ H ⟨ρ, env, m, er, mr, p⟩ => ?_
      rw [denS] at p
      refine (run2 er mr p).mono fun x H1 ⟨ρ1, m1, v1, e1, er1, mr1, r1, p1⟩ => ?_
      exact ok_now mr1 p1 σ er1
    · cases h
  | _ => cases hfl
theorem PS.impI {X : Cx} {st : Stmt} {t t' : TS} (h : PS X st t) (w : ∀ D σ H, σ.length = X.N.length → t' D σ H → t D σ H) : PS X st t' := ⟨fun pins s σ H D I q => h.run pins s σ H D I (w _ _ _ I.len q)⟩
/-- the wish of a body, out of the clause's -/
def EW (K : PySem.W.Frag) (mg : Str → Option Value) (W : WX) : SK := fun σ e _ H ρ => ∀ c od, XR K mg ρ e c od H → W c od σ H
theorem Fine.tr {sc : Scope} {X : Cx} {E : SK} (F : Fine T S d sc X E) (hk : X.stack = X.env :: X.outer ∧ X.env.frame = some X.env.locals) (W : WX) (pn : List (Addr × Obj)) (xe : Value → Shared → Prop) (tk : Takes (X.tr pn xe) W) : Fine T S d sc (X.tr pn xe) (EW X.K X.mg W) :=
  ⟨F.calm, F.nd, F.N, F.sc, F.hg, F.room, F.un, F.gk, F.cl, F.em, F.fn, TakesL.of (X := X.tr pn xe) hk.1 hk.2 (tk.imp fun c od σ H ⟨e, m, ρ, x, _, h⟩ => h c od x), F.sy, F.tb, F.c0, F.xc, F.tf, fun h => ⟨(F.lm h).code, (F.lm h).tb, (F.lm h).q, (F.lm h).of⟩, F.tl⟩
mutual
theorem soundS : ∀ (c : CS) (s : Stmt) (sc : Scope), chkS S sc c s = true → ∀ (X : Cx) (E : EK), Fine T S d sc X (fun _ => E) → X.fn = (fun _ => true) → PassesOwn (model X.prog X.w) X.A X.env X.xe → sc.kind = .function ∧ X.stack = X.env :: X.outer ∧ X.env.frame = some X.env.locals → PS X s (TDS X.K E (denS (callN T d) c))
  | .set i c, s, sc, h, X, E, F, hf, hp, hk => by
    simp only [chkS] at h
    split at h
    · rename_i x px e pos
      simp only [Bool.and_eq_true, decide_eq_true_eq] at h
      obtain ⟨⟨h1, h2⟩, h3⟩ := h
      have pe := soundE c e sc h3 X (fun _ => E) F
      have fin : ∀ (D : Ends) (σ : St) (H : Hp), TDS X.K E (denS (callN T d) (.set i c)) D σ H → tAsg (TDE X.K (fun _ => E) (denE (callN T d) c)) (gName i) D σ H := fun D σ H ⟨ρ, env, m, er, mr, p⟩ => by
        rw [denS] at p
        refine (run2 (E := fun _ => E) er mr p).mono fun x H1 ⟨ρ1, m1, v1, e1, er1, mr1, r1, p1⟩ => ?_
        exact ok_now mr1 p1 _ (er1.set i r1)
      have hi : X.N[i]? = some x := by rw [F.N]; exact h1
      have hl : Loc X.env.scope x := by rw [F.sc]; exact loc_of h2
      rcases chk_plain c e sc h3 with hpl | ⟨own, v, y, src, cc, ce, rfl⟩
      · exact PS.imp (ps_set (i := i) (by rw [F.N]; exact F.nd) hi hl pe (sw_plain hpl _ _ _) (.inl (by rw [hf]))) fin
      · exact PS.imp (set_lc (c := .var 0) h3 F hi hl hf) fin
    · cases h
  | .setix o i c, s, sc, h, X, E, F, hf, hp, hk => by
    simp only [chkS] at h
    split at h
    · rename_i x y ps e pos
      simp only [Bool.and_eq_true, decide_eq_true_eq] at h
      obtain ⟨⟨⟨⟨h1, h2⟩, h3⟩, h4⟩, h5⟩ := h
      refine PS.imp (ps_asg (soundE c e sc h4 X (fun _ => E) F) (pg_sub (soundE o x sc h1 X (fun _ => E) F) (soundE i y sc h2 X (fun _ => E) F) set_list ?_) ?_ ?_ ?_) fun D σ H ⟨ρ, env, m, er, mr, p⟩ => ?_
      · intro v
        cases y <;> first | rfl | cases h3
      · cases e <;> first | rfl | cases h5
      · cases e <;> first | rfl | cases h5
      · rfl
      · rw [denS] at p
        refine (run2 (E := fun _ => E) er mr p).mono fun z H1 ⟨ρ1, m1, v1, e1, er1, mr1, r1, p1⟩ => (run2 (E := fun _ => E) er1 mr1 p1).mono fun a H2 ⟨ρ2, m2, v2, e2, er2, mr2, r2, p2⟩ => (run2 (E := fun _ => E) er2 mr2 p2).mono fun b H3 ⟨ρ3, m3, v3, e3, er3, mr3, r3, p3⟩ => ?_
        cases q : setIx v2 v3 v1 m3 with
        | none => simp only [q] at p3; exact False.elim p3
        | some m4 =>
          simp only [q] at p3
          obtain ⟨A, xs, k, j, q1, q2, q3, q4, ρ4, e4, M4, q5⟩ := setIx_ok mr3 (r2.ext e3) r3 ((r1.ext e2).ext e3) q p3
          exact ⟨A, xs, k, j, q1, q2, q3, q4, q5 σ (er3.ext e4)⟩
    · cases h
  | .ret c, s, sc, h, X, E, F, hf, hp, hk => by
    simp only [chkS] at h
    split at h
    · rename_i e pos
      refine PS.imp (ps_ret (soundE c e sc h X (fun _ => E) F)) fun D σ H ⟨ρ, env, m, er, mr, p⟩ => ?_
      rw [denS] at p
      refine (run2 (E := fun _ => E) er mr p).mono fun x H1 ⟨ρ1, m1, v1, e1, er1, mr1, r1, p1⟩ => ?_
      exact ok_now mr1 p1 x r1
    · cases h
  | .expr c, s, sc, h, X, E, F, hf, hp, hk => by
    simp only [chkS] at h
    split at h
    · rename_i e pos
      simp only [Bool.and_eq_true] at h
      refine PS.imp (ps_expr (soundE c e sc h.1 X (fun _ => E) F) (sw_plain h.2 _ _ _)) fun D σ H ⟨ρ, env, m, er, mr, p⟩ => ?_
      rw [denS] at p
      refine (run2 (E := fun _ => E) er mr p).mono fun x H1 ⟨ρ1, m1, v1, e1, er1, mr1, r1, p1⟩ => ?_
      exact ok_now mr1 p1 σ er1
    · cases h
  | .iff c t f, s, sc, h, X, E, F, hf, hp, hk => by
    simp only [chkS] at h
    split at h
    · rename_i e xs ys pos
      simp only [Bool.and_eq_true] at h
      obtain ⟨⟨h1, h2⟩, h3⟩ := h
      refine PS.imp (ps_if (soundT c e sc h1 X (fun _ => E) F) (soundSs t xs sc h2 X E F hf hp hk) (soundSs f ys sc h3 X E F hf hp hk)) fun D σ H ⟨ρ, env, m, er, mr, p⟩ => ?_
      rw [denS] at p
      refine (run2 (E := fun _ => E) (R := eqR) er mr p).mono fun b H1 ⟨ρ1, m1, v1, e1, er1, mr1, r1, p1⟩ => ?_
      cases r1
      cases b with
      | true => rw [if_pos rfl]; exact ⟨ρ1, env, m1, er1, mr1, p1⟩
      | false => rw [if_neg Bool.false_ne_true]; exact ⟨ρ1, env, m1, er1, mr1, p1⟩
    · cases h
  | .for_ t src b, s, sc, h, X, E, F, hf, hp, hk => by
    simp only [chkS] at h
    split at h
    · rename_i tg iter body pos
      simp only [Bool.and_eq_true, Bool.or_eq_true, Bool.not_eq_true'] at h
      obtain ⟨⟨⟨ht, h3⟩, hti⟩, h4⟩ := h
      refine PS.imp (ps_for hp F.calm (soundI src iter sc h3 X (fun _ => E) hti F) (pg_tgt (p := locB sc) F.calm (by rw [F.N]; exact F.nd) (loc_p F.sc hf) t tg (by rw [F.N]; exact ht)) (soundSs b body sc h4 X E F hf hp hk) (fun z => set_of_I src iter h3 X.env z)) fun D σ H ⟨ρ, env, m, er, mr, p⟩ => ?_
      rw [denS] at p
      exact ⟨ρ, env, m, er, mr, p.bind.imp fun its m1 H1 ρ1 e1 M1 p1 J hJ => for_run hJ (er.ext e1) M1 p1⟩
    · cases h
  | .while_ n c b, s, sc, h, X, E, F, hf, hp, hk => by
    simp only [chkS] at h
    split at h
    · rename_i e body pos
      simp only [Bool.and_eq_true] at h
      refine PS.imp (ps_while hp (soundT c e sc h.1 X (fun _ => E) F) (soundSs b body sc h.2 X E F hf hp hk)) fun D σ H ⟨ρ, env, m, er, mr, p⟩ => ?_
      rw [denS] at p
      exact wh_run er mr p
    · cases h
  | .aug i neg c, s, sc, h, X, E, F, hf, hp, hk => by
    simp only [chkS] at h
    split at h
    · rename_i x px o e pos
      simp only [Bool.and_eq_true, decide_eq_true_eq] at h
      obtain ⟨⟨⟨h1, h2⟩, h3⟩, h4⟩ := h
      have hi : X.N[i]? = some x := by rw [F.N]; exact h1
      have hl : Loc X.env.scope x := by rw [F.sc]; exact loc_of h2
      have ip : PIp X o (ipI fun a b => if neg = true then a - b else a + b) := by
        cases neg with
        | true => cases of_decide_eq_true h3; exact ip_sub
        | false => cases of_decide_eq_true h3; exact ip_add
      refine PS.imp (ps_aug (by rw [F.N]; exact F.nd) hi hl (soundE c e sc h4 X (fun _ => E) F) ip (.inl (by rw [hf]))) fun D σ H ⟨ρ, env, m, er, mr, p⟩ => ?_
      rw [denS] at p
      split at p
      · rename_i k q
        obtain ⟨x0, q1, q2⟩ := er.at_ i _ q
        cases q2
        refine ⟨_, q1, (run2 (E := fun _ => E) er mr p).mono fun y H1 ⟨ρ1, m1, v1, e1, er1, mr1, r1, p1⟩ => ?_⟩
        split at p1
        · cases r1
          exact ⟨_, _, rfl, rfl, ok_now mr1 p1 _ (er1.set i (v := .d (.int _)) (.int _))⟩
        · exact False.elim p1
      · exact False.elim p
    · cases h
  | .pass, s, sc, h, X, E, F, hf, hp, hk => by
    simp only [chkS] at h
    split at h
    · refine PS.imp ps_pass fun D σ H ⟨ρ, env, m, er, mr, p⟩ => ?_
      rw [denS] at p
      exact ok_now mr p σ er
    · cases h
  | .raise_ x mm, s, sc, h, X, E, F, hf, hp, hk => by
    simp only [chkS] at h
    split at h
    · rename_i y p1 m' j p2 p3 p4
      simp only [Bool.and_eq_true, decide_eq_true_eq] at h
      obtain ⟨⟨⟨rfl, rfl⟩, h1⟩, h2⟩ := h
      obtain ⟨C, bmB, B, newId, initId, q1, q2, q3, q4, q5, q6, q7⟩ := F.c0 y (by simpa using h2)
      have hgl : Gl X y := by show X.env.scope.names.lookup _ = _; rw [F.sc]; exact glo_of h1
      refine PS.imp (ps_raise F.calm (F.tk.to hk.2.2) (pmk_own q1 q2 q3 q4 (raises_own q5 q6) hgl q7)) fun D σ H ⟨ρ, env, m, er, mr, p⟩ => ?_
      rw [denS] at p
      exact ⟨⟨y, []⟩, m, ρ, ⟨q3, .inl ⟨rfl, rfl⟩⟩, mr, p H ρ (.refl _ _) mr⟩
    · cases h
  | .raiseF x f c, s, sc, h, X, E, F, hf, hp, hk => by
    simp only [chkS] at h
    split at h
    · rename_i y p1 e p2 p3
      simp only [Bool.and_eq_true, decide_eq_true_eq] at h
      obtain ⟨⟨⟨⟨rfl, h1⟩, h2⟩, h3⟩, h4⟩ := h
      obtain ⟨C, fI, B, newId, initId, bmB, fd, N, q1, q2, q3, q4, q5, q6⟩ := F.xc y f (by simpa using h2)
      have hgl : Gl X y := by show X.env.scope.names.lookup _ = _; rw [F.sc]; exact glo_of h1
      refine ⟨fun pins s σ H D I ⟨ρ, env, m, er, mr, p⟩ => ?_⟩
      rw [denS] at p
      obtain ⟨n, hn, p⟩ := probe F.tl d m p
      refine (ps_raise F.calm (F.tk.to hk.2.2) (pmk_x (CX := L2.CX X.prog X.w) (k := 1) q1 q2 q6 (F.room.mono (by omega)) F.hg q5 (fun _ _ _ _ _ _ _ z => by obtain ⟨_, _, _, _, _, _, _, _, _, _, _, _, z⟩ := z; exact z.elim) hgl q3 (pa_cons (soundE c e sc h3 X (fun _ => E) F) pa_nil (star_plain h4 [] X.env)) q4 (star_plain h4 [] X.env))).run pins s σ H D I ?_
      refine (run2 (E := fun _ => E) er mr p).mono fun x H1 ⟨ρ1, m1, v1, e1, er1, mr1, r1, p1⟩ => ?_
      match v1, r1, p1 with
      | .d dd, r1, p1 =>
        exact ⟨x, rfl, fun a ha => ⟨⟨y, [(f, dd)]⟩, m1, ρ1, ⟨q3, .inr ⟨C, a, f, dd, x, rfl, q2.xf, q2.no, rfl, rfl, upd_same, DR.ext (sext (same_upd ha)) r1⟩⟩, mr1.same (same_upd ha), p1 _ ρ1 (sext (same_upd ha)) (mr1.same (same_upd ha))⟩⟩
      | .loc _, _, p1 => exact False.elim p1
    · cases h
  | .setSt is j c, s, sc, h, X, E, F, hf, hp, hk => by
    simp only [chkS] at h
    split at h
    · simp only [Bool.and_eq_true] at h
      obtain ⟨⟨h1, h2⟩, h3⟩ := h
      refine PS.imp (sound_setSt h1 h2 h3 F hf) fun D σ H ⟨ρ, env, m, er, mr, p⟩ => ?_
      rw [denS] at p
      refine (run2 (E := fun _ => E) er mr p).mono fun x H1 ⟨ρ1, m1, v1, e1, er1, mr1, r1, p1⟩ => ?_
      obtain ⟨d1, q1, p1⟩ := rdd_ok p1
      cases hq : seqOf d1 with
      | none => rw [hq] at p1; exact False.elim p1
      | some ds =>
        rw [hq] at p1
        obtain ⟨a, vs, rfl, sq, dr⟩ := seq_of (rd_ok mr1 r1 q1) hq
        simp only at p1
        split at p1
        · rename_i hl
          refine ⟨a, vs, rfl, sq, by rw [← dr.length]; exact hl, fun A hA => ⟨vs.take is.length, .ref A, rfl, by rw [List.length_take, ← dr.length]; omega, ?_⟩⟩
          have ex := sext (ρ := ρ1) (same_upd (o := .lst (vs.drop is.length)) hA)
          have drx := dr.ext ex
          exact p1 _ ρ1 ex (mr1.same (same_upd hA)) _ (((er1.ext ex).setAll (drx.take is.length)).set j (v := .d (.list (ds.drop is.length))) (DR.lst (.inl ⟨.inl upd_same, mr1.fresh hA⟩) (drx.drop is.length)))
        · exact False.elim p1
    · cases h
  | .setP i j a b, s, sc, h, X, E, F, hf, hp, hk => by
    simp only [chkS] at h
    split at h
    · simp only [Bool.and_eq_true, decide_eq_true_eq] at h
      obtain ⟨⟨⟨⟨h1, h2⟩, h3⟩, h4⟩, h5⟩ := h
      refine PS.imp (sound_par h1 h2 h3 h4 h5 F) fun D σ H ⟨ρ, env, m, er, mr, p⟩ => ?_
      rw [denS] at p
      refine (run2 (E := fun _ => E) er mr p).mono fun v H1 ⟨ρ1, m1, v1, e1, er1, mr1, r1, p1⟩ => (run2 (E := fun _ => E) er1 mr1 p1).mono fun u H2 ⟨ρ2, m2, v2, e2, er2, mr2, r2, p2⟩ => ?_
      exact ok_now mr2 p2 _ ((er2.set i (r1.ext e2)).set j r2)
    · cases h
  | .app o c, s, sc, h, X, E, F, hf, hp, hk => by
    simp only [chkS] at h
    split at h
    · rename_i x px y ap e cp ep
      simp only [Bool.and_eq_true, decide_eq_true_eq] at h
      obtain ⟨⟨⟨⟨rfl, h0⟩, h1⟩, h2⟩, h3⟩ := h
      have hs := star_plain h3 [] X.env
      refine PS.imp (ps_expr (pe_bm PySem.F.plainAttrs_list PySem.F.slot_list_append PySem.F.type_list_append mt_append (soundE o _ sc h1 X (fun _ => E) F) (pa_cons (soundE c e sc h2 X (fun _ => E) F) pa_nil hs) rfl (by rw [hs]; rfl) h0 hs rfl) rfl) fun D σ H ⟨ρ, env, m, er, mr, p⟩ => ?_
      rw [denS] at p
      refine (run2 (E := fun _ => E) er mr p).mono fun x H1 ⟨ρ1, m1, v1, e1, er1, mr1, r1, p1⟩ => ?_
      have key : ∀ {H2 : Hp} {ρ2 : List Addr} {m2 : Mem} {v2 : Vl} {y : V}, Ext H1 ρ1 H2 ρ2 → MR X.K H2 ρ2 m2 → VR X.K H2 ρ2 v2 y → EnvR X.K H2 ρ2 env σ → Post X.K E H2 ρ2 (match apIx v1 v2 m2 with | some m3 => .ok (Fl.nx, env) m3 | none => .stk) (fun q _ H' ρ' => EndR X.K D q H' ρ') → rAppend x [y] H2 fun _ H' => D.nx σ H' := fun {H2 ρ2 m2 v2 y} e2 mr2 r2 er2 p2 => by
        match v1, v2, r1, r2, p2 with
        | .loc l, .d dv, r1, r2, p2 =>
          obtain ⟨A, rfl, ha⟩ := VR.ext e2 r1
          cases q : m2[l]? with
          | none => simp only [apIx, q] at p2; exact False.elim p2
          | some ob =>
            have rr := mr2.ob l ob A q ha
            cases ob with
            | lst xs =>
              simp only [apIx, q] at p2
              split at p2
              · rename_i m3 hz
                split at hz
                · rename_i hz1
                  cases hz
                  obtain ⟨vs, q1, q2⟩ := rr
                  refine ⟨A, vs, y, rfl, rfl, q1, by rw [← q2.length]; exact hz1, ?_⟩
                  have exu : Ext H2 ρ2 (upd H2 A (.lst (vs ++ [y]))) ρ2 := ⟨⟨[], by simp⟩, fun b u w nb _ => ⟨by
                    have ne : b ≠ A := fun e => nb (by rw [e]; exact List.mem_of_getElem? ha)
                    rw [upd_ne ne]
                    exact w, nb⟩⟩
                  obtain ⟨M3, e3⟩ := mr2.put (o := .lst (vs ++ [y])) (ob := .lst (xs ++ [dv])) ha ⟨_, upd_same, (q2.ext exu).append (.cons (DR.ext exu r2) .nil)⟩
                  exact p2 _ _ e3 M3 σ (er2.ext e3)
                · cases hz
              · exact False.elim p2
            | dct _ => simp only [apIx, q] at p2; exact False.elim p2
            | ins _ _ => simp only [apIx, q] at p2; exact False.elim p2
            | tab _ => simp only [apIx, q] at p2; exact False.elim p2
        | .loc l, .loc _, _, _, p2 => exact False.elim p2
        | .d _, _, _, _, p2 => exact False.elim p2
      cases hL : isL v1 m1 with
      | false => rw [hL] at p1; exact False.elim p1
      | true =>
        rw [hL] at p1
        refine ⟨?_, ?_⟩
        · match v1, r1, hL with
          | .loc l, r1, hL =>
            obtain ⟨A, rfl, ha⟩ := r1
            cases q : m1[l]? with
            | none => simp [isL, q] at hL
            | some ob =>
              have rr := mr1.ob l ob A q ha
              cases ob with
              | lst xs =>
                obtain ⟨vs, q1, q2⟩ := rr
                exact .inl ⟨rfl, vs, .inl (.inl q1)⟩
              | dct _ => simp [isL, q] at hL
              | ins _ _ => simp [isL, q] at hL
              | tab _ => simp [isL, q] at hL
        · exact (run2 (E := fun _ => E) er1 mr1 p1).mono fun y H2 ⟨ρ2, m2, v2, e2, er2, mr2, r2, p2⟩ => key e2 mr2 r2 er2 p2
    · cases h
  | .setT is c, s, sc, h, X, E, F, hf, hp, hk => by
    simp only [chkS] at h
    split at h
    · simp only [Bool.and_eq_true] at h
      obtain ⟨⟨h1, h2⟩, h3⟩ := h
      refine PS.imp (sound_setT h1 h2 h3 F hf) fun D σ H ⟨ρ, env, m, er, mr, p⟩ => ?_
      rw [denS] at p
      refine (run2 (E := fun _ => E) er mr p).mono fun x H1 ⟨ρ1, m1, v1, e1, er1, mr1, r1, p1⟩ => ?_
      obtain ⟨d1, q1, p1⟩ := rdd_ok p1
      cases hq : seqOf d1 with
      | none => rw [hq] at p1; exact False.elim p1
      | some ds =>
        rw [hq] at p1
        obtain ⟨a, vs, rfl, sq, dr⟩ := seq_of (rd_ok mr1 r1 q1) hq
        simp only at p1
        split at p1
        · rename_i hl
          exact ⟨a, vs, rfl, sq, by rw [← dr.length]; exact hl, by rw [← dr.length]; exact hl, ok_now mr1 p1 _ (er1.setAll dr)⟩
        · exact False.elim p1
    · cases h
  | .try_ b c known acc i hd, s, sc, h, X, E, F, hf, hp, hk => by
    simp only [chkS] at h
    split at h
    · rename_i b' y p1 n h0 hs p2 p3
      simp only [Bool.and_eq_true, decide_eq_true_eq, Bool.not_eq_true'] at h
      obtain ⟨⟨⟨⟨⟨⟨⟨⟨⟨⟨hfl, hb⟩, rfl⟩, hg⟩, rfl⟩, hne⟩, hnm⟩, hacc⟩, hi⟩, hl⟩, hh⟩ := h
      obtain ⟨n1, n2, _⟩ := nm_of hnm
      have emx : ∀ x ∈ S.cls, EmOk X.K X.mg x y (acc.contains x) := fun x hx => F.em _ _ _ (by
        have := List.all_eq_true.mp hacc x hx
        simpa using this)
      obtain ⟨cv, nmc⟩ : ∃ cv, NmC X.mg y cv := by
        cases q : S.cls with
        | nil => rw [q] at hne; cases hne
        | cons x r =>
          obtain ⟨_, cv, _, k, _⟩ := emx x (by rw [q]; exact List.mem_cons_self ..)
          exact ⟨cv, k⟩
      have hgl : Gl X y := by show X.env.scope.names.lookup _ = _; rw [F.sc]; exact glo_of hg
      have hloc : X.env.kindOf n = some .local := by show X.env.scope.names.lookup n = _; rw [F.sc]; exact hl
      have hN : X.N[i]? = some n := by rw [F.N]; exact hi
      have hlt : i < X.N.length := (List.getElem?_eq_some_iff.mp hN).1
      refine PS.impI (ps_try_as (i := i) (c := cv) (Wout := WK X.K X.mg fun _ => E) (tb := fun W => tSeq (TDF X.K (EW X.K X.mg W) (denS (callN T d) b)) tNext)
        (ts := fun a cls dd => fun D σ H => ∃ (ex : Exn) (C : Addr), ex.cls ∈ S.cls ∧ X.mg ex.cls = some (.ref C) ∧ cls = .ref C ∧ TDH X.K C dd ex i a (denH ex hd) D σ H) hk.2.1 hk.2.2 (by rw [F.N]; exact F.nd) hN hloc ⟨hgl, nmc.1, nmc.2.1⟩ (F.tk.to hk.2.2)
        (fun W pn xe tk _ => pss_cons (soundF b b' sc hfl hb (X.tr pn xe) (EW X.K X.mg W) (F.tr hk.2 W pn xe tk) hf) pss_nil)
        (fun a oe cls dd pn hz hff => ⟨fun pins s σ H D I ⟨ex, C, hx, hm, e1, q⟩ => by
          subst e1
          exact (soundHs F hf hi (.inl (by rw [F.sc]; exact hl)) n1 n2 hx hm hz hff hd (h0 :: hs) hh).run pins s σ H D I q⟩)) fun D σ H hlen ⟨ρ, env, m, er, mr, p⟩ => ?_
      rw [denS] at p
      refine ⟨ρ, env, m, er, mr, ?_⟩
      cases hq : denS (callN T d) b env m with
      | ok q m1 => rw [hq] at p; exact p
      | stk => rw [hq] at p; exact p
      | err e m1 =>
        rw [hq] at p
        intro H' ρ' ex M cc od ⟨hm, fx⟩
        simp only at p
        split at p
        · rename_i hkc
          have hx : e.cls ∈ S.cls := by simpa using hkc
          obtain ⟨C, cv', hC, nm', k1, k2⟩ := emx e.cls hx
          cases nmc.uniq nm'
          rw [hC] at hm
          cases hm
          refine ⟨acc.contains e.cls, k2, fun ha a hn => ?_, fun ha => ?_⟩
          · rw [if_pos ha] at p
            refine ⟨e, C, hx, hC, rfl, List.getElem?_set_self (by rw [hlen]; exact hlt), ρ', env.set i none, m1, (er.ext ex).drop i _, M, fx, ?_⟩
            cases hdq : denH e hd (env.set i none) m1 with
            | err e2 m2 => exact absurd hdq (denH_noerr _ _ _ _ _ _)
            | stk => rw [hdq] at p; exact False.elim p
            | ok q m2 =>
              rw [hdq] at p
              intro H2 ρ2 ex2 M2
              have p2 := p H2 ρ2 (ex.trans ex2) M2
              obtain ⟨fl, env2⟩ := q
              cases fl with
              | nx => exact fun σ1 er1 => p2 _ (er1.drop i none)
              | ret v => exact fun x r => p2 x r
              | brk => exact fun σ1 er1 => p2 _ (er1.drop i none)
              | cont => exact fun σ1 er1 => p2 _ (er1.drop i none)
          · rw [if_neg (by rw [ha]; exact Bool.false_ne_true)] at p
            exact ⟨e, m1, ρ', ⟨hC, fx⟩, M, p H' ρ' ex M⟩
        · exact False.elim p
    · cases h
theorem soundSs : ∀ (c : CSs) (ss : List Stmt) (sc : Scope), chkSs S sc c ss = true → ∀ (X : Cx) (E : EK), Fine T S d sc X (fun _ => E) → X.fn = (fun _ => true) → PassesOwn (model X.prog X.w) X.A X.env X.xe → sc.kind = .function ∧ X.stack = X.env :: X.outer ∧ X.env.frame = some X.env.locals → PSs X ss (TDS X.K E (denSs (callN T d) c))
  | .nil, ss, sc, h, X, E, F, hf, hp, hk => by
    cases ss with
    | nil =>
      refine PSs.imp pss_nil fun D σ H ⟨ρ, env, m, er, mr, p⟩ => ?_
      rw [denSs] at p
      exact ok_now mr p σ er
    | cons _ _ => simp [chkSs] at h
  | .cons c r, ss, sc, h, X, E, F, hf, hp, hk => by
    cases ss with
    | nil => simp [chkSs] at h
    | cons s ss =>
      simp only [chkSs, Bool.and_eq_true] at h
      refine PSs.imp (pss_cons (soundS c s sc h.1 X E F hf hp hk) (soundSs r ss sc h.2 X E F hf hp hk)) fun D σ H ⟨ρ, env, m, er, mr, p⟩ => ?_
      rw [denSs] at p
      refine ⟨ρ, env, m, er, mr, p.bind.imp fun q m1 H1 ρ1 e1 M1 p1 => ?_⟩
      obtain ⟨fl, env1⟩ := q
      cases fl with
      | nx => exact fun σ1 er1 => ⟨ρ1, env1, m1, er1, M1, p1⟩
      | ret u => exact ok_now M1 p1
      | brk => exact ok_now M1 p1
      | cont => exact ok_now M1 p1
  | .op i x tb w j es r, ss, sc, h, X, E, F, hf, hp, hk => by
    simp only [chkSs] at h
    split at h
    · rename_i a pa b pb k pk ps y py a' pc z zs pd pe ss
      simp only [Bool.and_eq_true, decide_eq_true_eq] at h
      obtain ⟨⟨⟨⟨⟨⟨⟨⟨⟨⟨⟨⟨⟨⟨h1, h2⟩, h3⟩, rfl⟩, rfl⟩, h4⟩, h5⟩, h6⟩, h7⟩, h8⟩, h9⟩, h10⟩, h11⟩, h12⟩, h13⟩ := h
      obtain ⟨n1, n2, _⟩ := nm_of h3
      obtain ⟨m1', _, _⟩ := nm_of h5
      have hmem : (b, tb) ∈ S.tfs := by
        obtain ⟨q, q1, q2⟩ := List.any_eq_true.mp h6
        cases of_decide_eq_true q2
        exact q1
      obtain ⟨dk, ents, nn, t1, t2, t3⟩ := F.tf b tb hmem
      have hgl : Gl X b := by show X.env.scope.names.lookup _ = _; rw [F.sc]; exact glo_of h4
      have hi : X.N[i]? = some a' := by rw [F.N]; exact h1
      have hj : X.N[j]? = some y := by rw [F.N]; exact h10
      have hlA : Loc X.env.scope a' := by rw [F.sc]; exact loc_of h2
      have hlY : Loc X.env.scope y := by rw [F.sc]; exact loc_of h11
      have hvA : Vis X.env.scope a' := hlA.elim .inl fun q => .inr (.inl q)
      have hz : plainX z = true ∧ (backTo pd (starEach zs X.env)).any (·.1) = false := by
        cases es with
        | nil => simp [chkEs] at h12
        | cons c r => simp only [chkEs, Bool.and_eq_true] at h12; exact ⟨h12.1.2, any_plain r zs pd X.env h12.2⟩
      have s1 := ps_set (X := X) (pos := ps) (pos' := pa) (i := i) (by rw [F.N]; exact F.nd) hi hlA (pe_opF (p := pb) (pos := pk) hgl t1 m1' t2 (soundE w k sc h8 X (fun _ => E) F) (ix_plain h9)) rfl (.inl (by rw [hf]))
      have s2 := ps_set (X := X) (pos := pe) (pos' := py) (i := j) (by rw [F.N]; exact F.nd) hj hlY (pe_callV (p := pc) (pos := pd) (E := WE (WK X.K X.mg fun _ => E)) F.room F.hg hi hvA (passAtL F.tk) (soundEs es (z :: zs) sc h12 X (fun _ => E) F) n1 n2 (star_plain hz.1 zs X.env) hz.2) rfl (.inl (by rw [hf]))
      refine ⟨fun pins s σ H D I ⟨ρ, env, m, er, mr, p⟩ => (pss_cons s1 (pss_cons s2 (soundSs r ss sc h13 X E F hf hp hk))).run pins s σ H D I ?_⟩
      rw [denSs] at p
      refine (run2 (E := fun _ => E) er mr p).mono fun v H1 ⟨ρ1, m1, v1, e1, er1, mr1, r1, p1⟩ => ?_
      match v1, r1, p1 with
      | .d (.str zz), r1, p1 =>
        simp only at p1
        cases hg : tb.lookup zz with
        | none => rw [hg] at p1; exact False.elim p1
        | some g =>
          rw [hg] at p1
          simp only at p1
          cases r1
          obtain ⟨fy, am, fa, g1, g2, g3⟩ := t3 zz g hg
          refine ⟨zz, fa, rfl, g3, ?_⟩
          obtain ⟨fa', fd, fps, k1, k2, k3, k4⟩ := F.fn d (Nat.le_refl _) g fy am [] g1
          rw [g2] at k1
          cases k1
          have ham : am = lenE es := by
            have q := List.all_eq_true.mp h7 (zz, g) (PySem.mem_of_lookup hg)
            unfold tfB at q
            simp only [g1, decide_eq_true_eq] at q
            exact q
          refine ⟨fa, fd, fps, _, List.getElem?_set_self (by rw [I.len]; exact (List.getElem?_eq_some_iff.mp hi).1), k2, k3.plain, k4, ρ1, env.set i none, m1, er1.drop i _, mr1, ?_⟩
          have hl := lenEs (callN T d) es (env.set i none) m1
          have p' := p1.bind
          cases q : denEs (callN T d) es (env.set i none) m1 with
          | ok us m2 =>
            rw [q] at p' hl
            exact fun H2 ρ2 e2 M2 vs rr => ⟨ρ2, us, m2, rr, by rw [ham]; exact hl, M2, ((p' H2 ρ2 e2 M2).bind.cast (fun e m H' ρ' M h c od x => ⟨e, m, ρ', x, M, h⟩)).imp fun u m3 H3 ρ3 e3 M3 p3 x rx => ⟨ρ3, _, m3, ((((er1.drop i (some (.ref fa))).ext e2).ext e3).set j rx), M3, p3⟩⟩
          | err z m2 => rw [q] at p'; exact p'
          | stk => rw [q] at p'; exact p'
      | .d .none, _, p1 => exact False.elim p1
      | .d (.bool _), _, p1 => exact False.elim p1
      | .d (.int _), _, p1 => exact False.elim p1
      | .d (.tuple _), _, p1 => exact False.elim p1
      | .d (.list _), _, p1 => exact False.elim p1
      | .d (.dict _), _, p1 => exact False.elim p1
      | .loc _, _, p1 => exact False.elim p1
    · cases h
  | .opA i x tb w o es r, ss, sc, h, X, E, F, hf, hp, hk => by
    simp only [chkSs] at h
    split at h
    · rename_i a pa b pb k pk ps ox px y ap a' pc z zs pd cp pe ss
      simp only [Bool.and_eq_true, decide_eq_true_eq] at h
      obtain ⟨⟨⟨⟨⟨⟨⟨⟨⟨⟨⟨⟨⟨⟨⟨h1, h2⟩, h3⟩, rfl⟩, rfl⟩, h4⟩, h5⟩, h6⟩, h7⟩, h8⟩, h9⟩, rfl⟩, h10⟩, h11⟩, h12⟩, h13⟩ := h
      obtain ⟨n1, n2, _⟩ := nm_of h3
      obtain ⟨m1', _, _⟩ := nm_of h5
      have hmem : (b, tb) ∈ S.tfs := by
        obtain ⟨q, q1, q2⟩ := List.any_eq_true.mp h6
        cases of_decide_eq_true q2
        exact q1
      obtain ⟨dk, ents, nn, t1, t2, t3⟩ := F.tf b tb hmem
      have hgl : Gl X b := by show X.env.scope.names.lookup _ = _; rw [F.sc]; exact glo_of h4
      have hi : X.N[i]? = some a' := by rw [F.N]; exact h1
      have hlA : Loc X.env.scope a' := by rw [F.sc]; exact loc_of h2
      have hvA : Vis X.env.scope a' := hlA.elim .inl fun q => .inr (.inl q)
      have hz : plainX z = true ∧ (backTo pd (starEach zs X.env)).any (·.1) = false := by
        cases es with
        | nil => simp [chkEs] at h12
        | cons c r => simp only [chkEs, Bool.and_eq_true] at h12; exact ⟨h12.1.2, any_plain r zs pd X.env h12.2⟩
      have hs := star_plain (e := .Call (.Name a' pc) (z :: zs) [] pd) rfl [] X.env
      have s1 := ps_set (X := X) (pos := ps) (pos' := pa) (i := i) (by rw [F.N]; exact F.nd) hi hlA (pe_opF (p := pb) (pos := pk) hgl t1 m1' t2 (soundE w k sc h8 X (fun _ => E) F) (ix_plain h9)) rfl (.inl (by rw [hf]))
      have s2 := ps_expr (X := X) (pos := pe) (pe_bm PySem.F.plainAttrs_list PySem.F.slot_list_append PySem.F.type_list_append mt_append (soundE o (.Name ox px) sc h11 X (fun _ => E) F)
        (pa_cons (pe_callV (p := pc) (pos := pd) (E := WE (WK X.K X.mg fun _ => E)) F.room F.hg hi hvA (passAtL F.tk) (soundEs es (z :: zs) sc h12 X (fun _ => E) F) n1 n2 (star_plain hz.1 zs X.env) hz.2) pa_nil hs) rfl (by rw [hs]; rfl) h10 hs rfl) rfl
      refine ⟨fun pins s σ H D I ⟨ρ, env, m, er, mr, p⟩ => (pss_cons s1 (pss_cons s2 (soundSs r ss sc h13 X E F hf hp hk))).run pins s σ H D I ?_⟩
      rw [denSs] at p
      refine (run2 (E := fun _ => E) er mr p).mono fun v H1 ⟨ρ1, m1, v1, e1, er1, mr1, r1, p1⟩ => ?_
      match v1, r1, p1 with
      | .d (.str zz), r1, p1 =>
        simp only at p1
        cases hg : tb.lookup zz with
        | none => rw [hg] at p1; exact False.elim p1
        | some g =>
          rw [hg] at p1
          simp only at p1
          cases r1
          obtain ⟨fy, am, fa, g1, g2, g3⟩ := t3 zz g hg
          refine ⟨zz, fa, rfl, g3, ?_⟩
          obtain ⟨fa', fd, fps, k1, k2, k3, k4⟩ := F.fn d (Nat.le_refl _) g fy am [] g1
          rw [g2] at k1
          cases k1
          have ham : am = lenE es := by
            have q := List.all_eq_true.mp h7 (zz, g) (PySem.mem_of_lookup hg)
            unfold tfB at q
            simp only [g1, decide_eq_true_eq] at q
            exact q
          refine (run2 (E := fun _ => E) (er1.drop i (some (.ref fa))) mr1 p1).mono fun x H2 ⟨ρ2, m2, v2, e2, er2, mr2, r2, p2⟩ => ?_
          cases hL : isL v2 m2 with
          | false => rw [hL] at p2; exact False.elim p2
          | true =>
            rw [hL] at p2
            simp only at p2
            refine ⟨isL_ty mr2 r2 hL, fa, fd, fps, _, List.getElem?_set_self (by rw [I.len]; exact (List.getElem?_eq_some_iff.mp hi).1), k2, k3.plain, k4, ρ2, env.set i none, m2, er2, mr2, ?_⟩
            have hl := lenEs (callN T d) es (env.set i none) m2
            have p' := p2.bind
            cases q : denEs (callN T d) es (env.set i none) m2 with
            | ok us m3 =>
              rw [q] at p' hl
              exact fun H3 ρ3 e3 M3 vs rr => ⟨ρ3, us, m3, rr, by rw [ham]; exact hl, M3, ((p' H3 ρ3 e3 M3).bind.cast (fun e m H' ρ' M h c od x => ⟨e, m, ρ', x, M, h⟩)).imp fun u m4 H4 ρ4 e4 M4 p4 yv ry => by
                refine (?_ : rAppend x [yv] H4 fun _ H1 => TDS X.K E (denSs (callN T d) r) D (List.set σ i (some (V.ref fa))) H1)
                exact apIx_run (e3.trans e4) r2 M4 ry p4 fun H5 ρ5 m5 e5 M5 p5 => ⟨ρ5, _, m5, ((er2.ext e3).ext e4).ext e5, M5, p5⟩⟩
            | err z m3 => rw [q] at p'; exact p'
            | stk => rw [q] at p'; exact p'
      | .d .none, _, p1 => exact False.elim p1
      | .d (.bool _), _, p1 => exact False.elim p1
      | .d (.int _), _, p1 => exact False.elim p1
      | .d (.tuple _), _, p1 => exact False.elim p1
      | .d (.list _), _, p1 => exact False.elim p1
      | .d (.dict _), _, p1 => exact False.elim p1
      | .loc _, _, p1 => exact False.elim p1
    · cases h
end
/-- the body of a function -/
structure FdOk (S : Tab) (ps : List Str) (f : Fd) (scope : Scope) (body : List Stmt) : Prop where
  sc : FnScope f.N ps scope
  nd : f.N.Nodup
  len : ps.length = f.ps
  chk : chkSs { S with N := f.N, lams := if f.lam then S.lams else [] } scope f.body body = true
end
end Ev

set_option maxHeartbeats 4000000
/-! Ev: all functions of the table; the law's end. -/
namespace Ev
open PySem PySem.Spec PyProof.Rows L2
set_option autoImplicit false

theorem envR_start {K : PySem.W.Frag} {H : Hp} {ρ : List Addr} {us : List Vl} {vs : List V} (h : VRs K H ρ us vs) (N : List Str) : EnvR K H ρ (us.map some ++ List.replicate (N.length - us.length) none) (L2.start N vs) := by
  unfold L2.start
  refine ⟨by simp [h.length], fun i v q => ?_⟩
  by_cases hi : i < us.length
  · rw [List.getElem?_append_left (by simpa using hi), List.getElem?_map] at q
    have hv : i < vs.length := by rw [← h.length]; exact hi
    rw [List.getElem?_append_left (by simpa using hv), List.getElem?_map]
    have go : ∀ {us : List Vl} {vs : List V} {i : Nat}, VRs K H ρ us vs → (us[i]?).map some = some (some v) → ∃ x, (vs[i]?).map some = some (some x) ∧ VR K H ρ v x := by
      intro us vs i h
      induction h generalizing i with
      | nil => intro q; simp at q
      | cons a b ih =>
        intro q
        cases i with
        | zero => simp at q; subst q; exact ⟨_, rfl, a⟩
        | succ i => simpa using ih (by simpa using q)
    exact go h q
  · rw [List.getElem?_append_right (by simpa using Nat.le_of_not_lt hi), List.getElem?_replicate] at q
    split at q <;> cases q
theorem callN_len {T : List Fd} {d g : Nat} {f : Fd} (hf : T[g]? = some f) {us : List Vl} {m : Mem} {K : PySem.W.Frag} {E : EK} {H : Hp} {ρ : List Addr} {k : Vl → Mem → Hp → List Addr → Prop} (p : Post K E H ρ (callN T (d + 1) g us m) k) :
    us.length = f.ps ∧ Post K E H ρ ((denSs (callN T d) f.body (us.map some ++ List.replicate (f.N.length - us.length) none) m).bind fun q m1 => (match flV q.1 with
          | some v => closeC f.keep m.length v m1
          | none => .stk)) k := by
  unfold callN at p
  simp only [hf] at p
  split at p
  · rename_i h; exact ⟨h, p⟩
  · exact False.elim p
def mkTab (T : List Fd) (gks : List (Str × PyData)) (cls : List Str) (exm : List (Str × Str × Bool)) (tbs : List (Str × List Str)) (lams : List LamD) (lq : Str) (cls0 : List Str) (xcl : List (Str × Str)) (tfs : List (Str × List (Str × Nat))) : Tab := ⟨[], T.map fun f => (f.name, f.ps, f.kw), gks, cls, exm, tbs, cls0, xcl, tfs, lams, lq⟩
/-- a def with keyword-only parameters, no other defaults -/
theorem bindAll_kw {K : PySem.W.Frag} {x qual : Str} {params : Arguments} {body : List Stmt} {scope : Scope} {kws : List (Str × V)} {f : Addr} {fd : FuncData} {ps : List Str} {kw : List (Str × PyData)} (F : FunD K x qual params body scope [] kws f fd) (hk : kws ≠ [])
    (hn : kws.map (·.1) = kw.map (·.1)) (hd : ∀ H ρ, DRs K H ρ (kw.map (·.2)) (kws.map (·.2))) (m : Nat) (hm : m + kws.length = ps.length)
    (h0 : ∀ (D : Addr) (doc pm : Value) (an : Option Addr) (cdv ct : Value) (us ks : List Value), us.length = m → ks.length = kws.length →
      KwChain D ((kws.map (·.1)).zip ks) (bindArgs (PySem.W.fnOf x qual params body scope .none (.ref D) doc pm an cdv ct) ⟨us, []⟩) (ps.zip (us ++ ks)))
    (h1 : ∀ (D : Addr) (doc pm : Value) (an : Option Addr) (cdv ct : Value) (us ws : List Value), us.length = m → ws.length = kws.length →
      bindArgs (PySem.W.fnOf x qual params body scope .none (.ref D) doc pm an cdv ct) ⟨us, (kws.map (·.1)).zip ws⟩ = pure (ps.zip (us ++ ws))) : BindAll K fd ps (m + kws.length) kw := by
  have hl : kws.length = kw.length := by rw [← List.length_map (f := fun q : Str × V => q.1), hn, List.length_map]
  refine ⟨?_, fun _ m' e => ?_⟩
  · obtain ⟨ds, r, b⟩ := F.binds0 m hk hm h0
    exact ⟨_, ds, hd, r, b⟩
  · have em : m' = m := by omega
    subst em
    obtain ⟨mv, q⟩ := FunD.kbinds0 F m' (kw.map (·.1)) [] (fun us _ ws => us ++ ws) hk (fun q hq => by cases hq) (fun r1 _ r3 => r1.append r3) (fun D doc pm an cdv ct us mv ws l1 _ l3 => by
      rw [← hn]
      exact h1 D doc pm an cdv ct us ws l1 (by rw [l3, List.length_map]; exact hl.symm))
    exact q
theorem law_code {K : PySem.W.Frag} {x qual : Str} {params : Arguments} {body : List Stmt} {scope : Scope} {kws : List (Str × V)} {fd : FuncData} (F : FunD K x qual params body scope [] kws (He.ga K "law") fd) : fd.code = .ref (He.cT K ("law", none)).1 := by
  obtain ⟨oc, od, dV, kV, doc, pm, an, cdv, ct, osl, rfl, lk, hcd, _⟩ := F.ex
  obtain ⟨c, rfl⟩ := He.codeIn_ref hcd
  show Value.ref c = .ref (He.codeOf K ("law", none))
  rw [He.codeOf_eq (p := ("law", none)) lk rfl]
section
variable {P : Program} {w : World} {K : PySem.W.Frag} {mg : Str → Option Value} {base : Heap} {T : List Fd} {gks : List (Str × PyData)} {cls : List Str} {exm : List (Str × Str × Bool)} {tbs : List (Str × List Str)} {lams : List LamD} {lq : Str} {cls0 : List Str} {xcl : List (Str × Str)} {tfs : List (Str × List (Str × Nat))}
theorem fn_all (hcl : ∀ x ∈ cls, ClsOk K mg x) (hem : ∀ x y b, (x, y, b) ∈ exm → EmOk K mg x y b) (hsy : SysD base) (htb : ∀ x ks, (x, ks) ∈ tbs → ∃ d es n, mg x = some (.ref d) ∧ KDict K w d es n ∧ ∀ z, ∃ r, PySem.W.nsIn K d z = some r ∧ r.isSome = ks.contains z) (htl : T.length ≤ 900) (hc0 : ∀ x ∈ cls0, ClsN K mg x) (hxc : ∀ x f, (x, f) ∈ xcl → ClsX P w K mg base x f)
    (htf : ∀ x tb, (x, tb) ∈ tfs → ∃ dk es n, mg x = some (.ref dk) ∧ KDict K w dk es n ∧ ∀ z g, tb.lookup z = some g → ∃ y m a, (T.map fun f => (f.name, f.ps, f.kw))[g]? = some (y, m, []) ∧ mg y = some (.ref a) ∧ PySem.W.nsIn K dk z = some (some (.ref a))) (hlm : lams ≠ [] → LamX.TabB base mg (He.cT K ("law", none)).1 (He.cT K ("law", none)).2 ∧ ∀ l ∈ lams, ∃ (g : Addr) (fd : FuncData) (pg : Arguments) (bg : List Stmt) (sg : Scope), mg l.x = some (.ref g) ∧ FunD K l.x l.x pg bg sg [] [] g fd ∧ Binds K fd [l.a] [] ∧ FnScope [l.a, l.n] [l.a] sg ∧
      chkLam { mkTab T gks cls exm tbs lams lq cls0 xcl tfs with N := [l.a, l.n], lams := [] } sg l bg = true)
    (hga : lams ≠ [] → mg "law" = some (.ref (He.ga K "law")) ∧ (("law" : Str) ++ ".<locals>.") ++ "<lambda>" = lq) (hun : ∀ x ∈ bnames, mg x = none) (hgk : ∀ x dd, (x, dd) ∈ gks → ∃ u v, mg x = some u ∧ RelV v u ∧ DR K (fun _ => none) [] dd v)
    (hfn : ∀ (g : Nat) (f : Fd), T[g]? = some f → ∃ (a : Addr) (fd : FuncData) (ps : List Str) (qual : Str) (params : Arguments) (body : List Stmt) (scope : Scope) (kws : List (Str × V)), mg f.name = some (.ref a) ∧ FunD K f.name qual params body scope [] kws a fd ∧ BindAll K fd ps f.ps f.kw ∧ FdOk (mkTab T gks cls exm tbs lams lq cls0 xcl tfs) ps f scope body ∧ (f.lam = true → qual = "law" ∧ f.name = "law")) :
    ∀ (d g : Nat) (f : Fd), T[g]? = some f → ∀ (a : Addr) (fd : FuncData) (ps : List Str) (qual : Str) (params : Arguments) (body : List Stmt) (scope : Scope) (kws : List (Str × V)), mg f.name = some (.ref a) → FunD K f.name qual params body scope [] kws a fd → FdOk (mkTab T gks cls exm tbs lams lq cls0 xcl tfs) ps f scope body → (f.lam = true → qual = "law" ∧ f.name = "law") →
      FnP P w K mg base (L2.CX P w) d a fd ps (spN K mg T d g f.ps)
  | 0, g, f, hf, a, fd, ps, qual, params, body, scope, kws, hm, F, ok, hq => by
    refine ⟨fun vs H Q E h => ?_, fun A outer s H args us vs Q E _ _ _ _ _ h => ?_⟩
    all_goals
      obtain ⟨ρ, us, m, _, _, _, p⟩ := h
      exact False.elim p
  | d + 1, g, f, hf, a, fd, ps, qual, params, body, scope, kws, hm, F, ok, hq => by
    refine fnP_of F ok.sc (fun vs H Q E ⟨ρ, us, m, r, hl, _, _⟩ => by rw [← r.length, hl, ok.len]) fun cdv A outer s H vs Q E hcd hr hg ⟨ρ, us, m, r, hl, mr, p⟩ => ?_
    obtain ⟨_, p⟩ := callN_len hf p
    let EE : EK := fun e _ H' ρ' => ∀ c od, XR K mg ρ' e c od H' → E c od H'
    refine ⟨TDS K EE (denSs (callN T d) f.body), ?_, ?_⟩
    · have tk : TakesL (cxOf (L2.CX P w) P w K mg base f.N qual scope a cdv A outer s H E) (WK K mg fun _ => EE) :=
        TakesL.of rfl rfl ((takes_of rfl rfl rfl rfl).imp fun c od σ H' ⟨e, m, ρ, x, _, h⟩ => h c od x)
      refine soundSs (T := T) (S := { mkTab T gks cls exm tbs lams lq cls0 xcl tfs with N := f.N, lams := if f.lam then lams else [] }) (d := d) f.body body scope ok.chk _ EE ⟨rfl, ok.nd, rfl, rfl, hg, hr, hun, hgk, hcl, hem, fun d' hd' g' x n kw e => ?_, tk, hsy, htb, hc0, hxc, htf, fun hl => ?_, htl⟩ rfl (passes_of rfl) ⟨ok.sc.kind, rfl, rfl⟩
      rotate_left
      · have hf2 : f.lam = true ∧ lams ≠ [] := by
          have hl : (if f.lam then lams else []) ≠ [] := hl
          split at hl
          · rename_i w; exact ⟨w, hl⟩
          · exact absurd rfl hl
        obtain ⟨rfl, hn⟩ := hq hf2.1
        obtain ⟨g1, g2⟩ := hga hf2.2
        obtain ⟨g3, g4⟩ := hlm hf2.2
        rw [hn, g1] at hm
        cases hm
        refine ⟨?_, g3, g2, fun l hl => g4 l ?_⟩
        · show cdv = _
          rw [← hcd]
          exact law_code F
        · have hl : l ∈ (if f.lam then lams else []) := hl
          rw [if_pos hf2.1] at hl
          exact hl
      have e' : (T.map fun f => (f.name, f.ps, f.kw))[g']? = some (x, n, kw) := e
      rw [List.getElem?_map] at e'
      cases q : T[g']? with
      | none => rw [q] at e'; cases e'
      | some f' =>
        rw [q] at e'
        cases e'
        obtain ⟨a', fd', ps', qual', params', body', scope', kws', h1, h2, h3, h4, h5⟩ := hfn g' f' q
        exact ⟨a', fd', ps', h1, h2.kp, h3, fn_all hcl hem hsy htb htl hc0 hxc htf hlm hga hun hgk hfn d' g' f' q a' fd' ps' qual' params' body' scope' kws' h1 h2 h4 h5⟩
    · refine ⟨ρ, _, m, envR_start r f.N, mr, ?_⟩
      refine p.bind0.imp fun q m1 H1 ρ1 e1 M1 p1 => ?_
      obtain ⟨fl, env1⟩ := q
      cases fl with
      | nx => exact fun σ1 _ => close_run mr.len e1 M1 p1 .non .non
      | ret v => exact close_run mr.len e1 M1 p1
      | brk => exact False.elim p1
      | cont => exact False.elim p1
termination_by d => d
decreasing_by omega
-- END
theorem drs_ints {ρ : List Addr} {H : Hp} : ∀ ns : List Int, DRs K H ρ (ns.map PyData.int) (ns.map V.int)
  | [] => .nil
  | _ :: ns => .cons (.int _) (drs_ints ns)
/-- from the table's word about the law to the promise -/
theorem law_sp {d g : Nat} {ns : List Int} {a : Addr} {H : Hp} (h : ∃ m, callN T d g [.d (.list (ns.map .int))] [] = .ok (.d (.bool true)) m) (sq : SqL K H a (ns.map V.int)) : spN K mg T d g 1 [.ref a] H (fun v _ => v = .bl true) fun _ _ _ => False := by
  obtain ⟨m, h⟩ := h
  refine ⟨[], [.d (.list (ns.map .int))], [], .cons ?_ .nil, rfl, ⟨rfl, List.nodup_nil, fun l o a h => by simp at h⟩, ?_⟩
  · refine DR.lst ?_ (drs_ints ns)
    rcases sqL_split sq with q | q
    · exact .inl ⟨q, by simp⟩
    · exact .inr q
  · rw [h]
    intro H' ρ' _ _ x r
    cases r
    rfl
/-- the call of the law, by its promise -/
theorem law_callP {mb : Str → Option Value} {k : Nat} {fa a : Addr} {fd : FuncData} {x : Str} {sp : Sp} {s₁ : Shared} {vs : List Value} {ns : List Int} (kin : K.In s₁.heap) (hns : s₁.heap.Ns mainGlobals mg) (hb : s₁.heap.Ns builtinsNs mb)
    (hbb : ∀ x : Str, x ≠ "__name__" → mb x = bootBuiltins x) (hlim : s₁.heap.NoLimit) (hg : s₁.gens = #[]) (ha : s₁.heap.get? a = some { cls := .type "list", data := .seq vs.toArray }) (hi : IntsAre vs ns) (hl : ns.length ≤ sizeLine) (hr : Room k callerA)
    (hsd : SysD s₁.heap) (F : ∀ base : Heap, SysD base → FnP P w K mg base (L2.CX P w) k fa fd [x] sp) (hbind : ∀ (s : Shared) (u : Value), BindsTo s fd ⟨[u], []⟩ [(x, u)])
    (hsp : ∀ H : Hp, SqL K H a (ns.map V.int) → sp [.ref a] H (fun v _ => v = .bl true) fun _ _ _ => False) :
    codeAny (model P w) callerA (.call (.ref fa) ⟨[.ref a], []⟩) (fun r s' => r = .ok (.ret (.bool true)) ∧ OldK s₁.heap s'.heap ∧ s'.os = s₁.os ∧ AllBare s'.gens) s₁ := by
  have rv := vals_ints hi
  let o0 : Obj := { cls := .type "list", data := .seq vs.toArray }
  -- the script is tracked, unless it is the text's own
  let H : Hp := fun b => if K.lookup a = none ∧ b = a then some (.frz o0 (.lst (ns.map V.int))) else none
  have Hb : ∀ {b : Addr} {u : HO}, H b = some u → K.lookup a = none ∧ b = a ∧ u = .frz o0 (.lst (ns.map V.int)) := fun {b u} e => by
    have e : (if K.lookup a = none ∧ b = a then some (HO.frz o0 (.lst (ns.map V.int))) else none) = some u := e
    split at e
    · rename_i h; cases e; exact ⟨h.1, h.2, rfl⟩
    · cases e
  have hok : HOk P w H s₁.heap := fun b u e => by
    obtain ⟨_, rfl, rfl⟩ := Hb e
    exact ⟨ha, by rw [List.length_map]; exact hl, vs, _, rv, ha⟩
  have free : ∀ {b : Addr} {o : Obj}, s₁.heap.get? b = some o → o.data ≠ o0.data → H b = none := fun {b o} e ne => by
    cases q : H b with
    | none => rfl
    | some u =>
      obtain ⟨_, rfl, _⟩ := Hb q
      rw [ha] at e
      cases e
      exact absurd rfl ne
  have ns' : ∀ {b : Addr} {m : Str → Option Value}, s₁.heap.Ns b m → (hidT s₁.heap H).Ns b m := fun {b m} ⟨o, es, ep, e, d, r⟩ => ⟨o, es, ep, hidT_get e (free e (by rw [d]; exact fun z => by cases z)), d, r⟩
  have kb : K.In (hidT s₁.heap H) := fun b o e => hidT_get (kin b o e) (by
    cases q : H b with
    | none => rfl
    | some u =>
      obtain ⟨z, rfl, _⟩ := Hb q
      rw [z] at e
      cases e)
  have md : Mod K mg (hidT s₁.heap H) := ⟨kb, ns' hns, ⟨mb, ns' hb, hbb⟩, let ⟨mc, h1, h2⟩ := hlim; ⟨mc, ns' h1, h2⟩⟩
  have e0 : Env0 P w K mg (hidT s₁.heap H) callerA [] s₁ H := ⟨rfl, md, fun b o e => of_hidT e, Nat.le_of_eq (hidT_size _ _), trivial, (fun b hb => by cases hb), hok, .of_eq hg⟩
  have sq : SqL K H a (ns.map V.int) := by
    cases q : K.lookup a with
    | none => exact .inl (.inr ⟨o0, if_pos ⟨q, rfl⟩⟩)
    | some o =>
      have e := kin a o q
      rw [ha] at e
      cases e
      exact .inr ⟨_, vs.toArray, _, q, rfl, rfl, rfl, by rw [List.size_toArray, hi.length]; exact hl, by simpa using rv⟩
  have hsd' : SysD (hidT s₁.heap H) := by
    obtain ⟨o, es, n, e, d⟩ := hsd
    exact ⟨o, es, n, hidT_get e (free e (by rw [d]; exact fun z => by cases z)), d⟩
  refine codeAny_mono ((F _ hsd').run callerA [] s₁ H ⟨[.ref a], []⟩ [.ref a] [.ref a] _ _ hr rfl e0 (hbind s₁ (.ref a)) (.cons rfl .nil) (hsp H sq)) fun r s' h => ?_
  match r, h with
  | .error e, h => obtain ⟨_, _, _, _, _, _, _, _, _, _, _, _, z⟩ := h; exact z.elim
  | .ok .next, h => exact h.elim
  | .ok .brk, h => exact h.elim
  | .ok .cont, h => exact h.elim
  | .ok (.ret u), ⟨v, H', os, bare, un, hok', r', q⟩ =>
    cases (show v = .bl true from q)
    cases (show u = Value.bool true from r')
    refine ⟨rfl, OldK.of_keep fun b o e => ?_, os, bare⟩
    cases q : H b with
    | none => exact un.keep b o e q (fun z => by cases z) (fun z => by cases z)
    | some u =>
      obtain ⟨_, rfl, rfl⟩ := Hb q
      obtain ⟨e2, _⟩ := hok' b _ (un.frzs b o0 _ q)
      rw [ha] at e
      cases e
      exact e2
/-- the same with the law's own table of code objects -/
theorem law_callL {mb : Str → Option Value} {k : Nat} {fa a c P' : Addr} {fd : FuncData} {x : Str} {sp : Sp} {s₁ : Shared} {vs : List Value} {ns : List Int} (kin : K.In s₁.heap) (hns : s₁.heap.Ns mainGlobals mg) (hb : s₁.heap.Ns builtinsNs mb)
    (hbb : ∀ x : Str, x ≠ "__name__" → mb x = bootBuiltins x) (hlim : s₁.heap.NoLimit) (hg : s₁.gens = #[]) (ha : s₁.heap.get? a = some { cls := .type "list", data := .seq vs.toArray }) (hi : IntsAre vs ns) (hl : ns.length ≤ sizeLine) (hr : Room k callerA)
    (hT : s₁.heap.get? P' = some { cls := .none, data := .fields #[] }) (nT : K.lookup P' = none) (C : PySem.W.CodeHd s₁.heap c P')
    (hbm : ∃ (bm : Addr) (ob : Obj), mg "__builtins__" = some (.ref bm) ∧ bm ≠ builtinsNs ∧ s₁.heap.get? bm = some ob ∧ ob.cls = .type "module" ∧ ob.dict = some builtinsNs ∧ ob.data = .plain)
    (hsd : SysD s₁.heap) (F : ∀ base : Heap, SysD base → LamX.TabB base mg c P' → FnP P w K mg base (L2.CX P w) k fa fd [x] sp) (hbind : ∀ (s : Shared) (u : Value), BindsTo s fd ⟨[u], []⟩ [(x, u)])
    (hsp : ∀ H : Hp, H P' = some (.tbl #[]) → SqL K H a (ns.map V.int) → sp [.ref a] H (fun v _ => v = .bl true) fun _ _ _ => False) :
    codeAny (model P w) callerA (.call (.ref fa) ⟨[.ref a], []⟩) (fun r s' => r = .ok (.ret (.bool true)) ∧ OldK s₁.heap s'.heap ∧ s'.os = s₁.os ∧ AllBare s'.gens) s₁ := by
  have rv := vals_ints hi
  let o0 : Obj := { cls := .type "list", data := .seq vs.toArray }
  have aP : a ≠ P' := fun z => by
    rw [z, hT] at ha
    have := congrArg Obj.data (Option.some.inj ha)
    cases this
  let H : Hp := fun b => if b = P' then some (.tbl #[]) else if K.lookup a = none ∧ b = a then some (.frz o0 (.lst (ns.map V.int))) else none
  have HP : H P' = some (.tbl #[]) := if_pos rfl
  have Hb : ∀ {b : Addr} {u : HO}, H b = some u → (b = P' ∧ u = .tbl #[]) ∨ (K.lookup a = none ∧ b = a ∧ u = .frz o0 (.lst (ns.map V.int))) := fun {b u} e => by
    have e : (if b = P' then some (HO.tbl #[]) else if K.lookup a = none ∧ b = a then some (HO.frz o0 (.lst (ns.map V.int))) else none) = some u := e
    split at e
    · rename_i h; cases e; exact .inl ⟨h, rfl⟩
    · split at e
      · rename_i h; cases e; exact .inr ⟨h.1, h.2, rfl⟩
      · cases e
  have hok : HOk P w H s₁.heap := fun b u e => by
    rcases Hb e with ⟨rfl, rfl⟩ | ⟨_, rfl, rfl⟩
    · exact hT
    · exact ⟨ha, by rw [List.length_map]; exact hl, vs, _, rv, ha⟩
  have free : ∀ {b : Addr} {o : Obj}, s₁.heap.get? b = some o → o.data ≠ o0.data → o.data ≠ .fields #[] → H b = none := fun {b o} e ne ne2 => by
    cases q : H b with
    | none => rfl
    | some u =>
      rcases Hb q with ⟨rfl, _⟩ | ⟨_, rfl, _⟩
      · rw [hT] at e
        cases e
        exact absurd rfl ne2
      · rw [ha] at e
        cases e
        exact absurd rfl ne
  have ns' : ∀ {b : Addr} {m : Str → Option Value}, s₁.heap.Ns b m → (hidT s₁.heap H).Ns b m := fun {b m} ⟨o, es, ep, e, d, r⟩ => ⟨o, es, ep, hidT_get e (free e (by rw [d]; exact fun z => by cases z) (by rw [d]; exact fun z => by cases z)), d, r⟩
  have kb : K.In (hidT s₁.heap H) := fun b o e => hidT_get (kin b o e) (by
    cases q : H b with
    | none => rfl
    | some u =>
      rcases Hb q with ⟨rfl, _⟩ | ⟨z, rfl, _⟩
      · rw [nT] at e; cases e
      · rw [z] at e; cases e)
  have md : Mod K mg (hidT s₁.heap H) := ⟨kb, ns' hns, ⟨mb, ns' hb, hbb⟩, let ⟨mc, h1, h2⟩ := hlim; ⟨mc, ns' h1, h2⟩⟩
  have e0 : Env0 P w K mg (hidT s₁.heap H) callerA [] s₁ H := ⟨rfl, md, fun b o e => of_hidT e, Nat.le_of_eq (hidT_size _ _), trivial, (fun b hb => by cases hb), hok, .of_eq hg⟩
  have sq : SqL K H a (ns.map V.int) := by
    cases q : K.lookup a with
    | none => exact .inl (.inr ⟨o0, (if_neg aP).trans (if_pos ⟨q, rfl⟩)⟩)
    | some o =>
      have e := kin a o q
      rw [ha] at e
      cases e
      exact .inr ⟨_, vs.toArray, _, q, rfl, rfl, rfl, by rw [List.size_toArray, hi.length]; exact hl, by simpa using rv⟩
  have hsd' : SysD (hidT s₁.heap H) := by
    obtain ⟨o, es, n, e, d⟩ := hsd
    exact ⟨o, es, n, hidT_get e (free e (by rw [d]; exact fun z => by cases z) (by rw [d]; exact fun z => by cases z)), d⟩
  have tb : LamX.TabB (hidT s₁.heap H) mg c P' := by
    refine ⟨?_, ?_, fun z => ?_⟩
    · obtain ⟨o, us, file, tf, flags, tg, inF, text, tt, g1, r1, r2, r3, rest⟩ := C
      refine ⟨o, us, file, tf, flags, tg, inF, text, tt, hidT_get g1 (free g1 ?_ ?_), r1, r2, r3, rest⟩
      · rw [r2]; exact fun z => by cases z
      · rw [r2]; intro z; cases z; simp at r3
    · obtain ⟨bm, ob, b1, b2, b3, b4, b5, b6⟩ := hbm
      refine ⟨bm, ob, b1, b2, fun q => ?_, fun q => ?_, hidT_get b3 (free b3 ?_ ?_), b4, b5, b6⟩
      · obtain ⟨o, es, ep, e, hd, _⟩ := hns
        rw [q, e] at b3
        cases b3
        rw [hd] at b6
        cases b6
      · rw [q, hT] at b3
        cases b3
        cases b6
      · rw [b6]; exact fun z => by cases z
      · rw [b6]; exact fun z => by cases z
    · obtain ⟨o, es, ep, e, hd, _⟩ := hns
      rw [z, hT] at e
      cases e
      cases hd
  refine codeAny_mono ((F _ hsd' tb).run callerA [] s₁ H ⟨[.ref a], []⟩ [.ref a] [.ref a] _ _ hr rfl e0 (hbind s₁ (.ref a)) (.cons rfl .nil) (hsp H HP sq)) fun r s' h => ?_
  match r, h with
  | .error e, h => obtain ⟨_, _, _, _, _, _, _, _, _, _, _, _, z⟩ := h; exact z.elim
  | .ok .next, h => exact h.elim
  | .ok .brk, h => exact h.elim
  | .ok .cont, h => exact h.elim
  | .ok (.ret u), ⟨v, H', os, bare, un, hok', r', q⟩ =>
    cases (show v = .bl true from q)
    cases (show u = Value.bool true from r')
    have keepA : ∀ b o, b ≠ P' → s₁.heap.get? b = some o → s'.heap.get? b = some o := fun b o nb e => by
      cases q : H b with
      | none => exact un.keep b o e q (fun z => by cases z) (fun z => by cases z)
      | some u =>
        rcases Hb q with ⟨rfl, _⟩ | ⟨_, rfl, rfl⟩
        · exact absurd rfl nb
        · obtain ⟨e2, _⟩ := hok' b _ (un.frzs b o0 _ q)
          rw [ha] at e
          cases e
          exact e2
    obtain ⟨more, z⟩ := un.tbls P' #[] HP
    have grown := hok' P' _ z
    refine ⟨rfl, ⟨fun b o e => ?_, fun b o e => ?_⟩, os, bare⟩
    · by_cases hbP : b = P'
      · subst hbP
        rw [hT] at e
        cases e
        exact .inr (.inl ⟨(C.tab hT).isCodeTable, rfl, #[], _, rfl, by rw [Array.empty_append]; exact grown⟩)
      · exact .inl (keepA b o hbP e)
    · by_cases hbP : b = P'
      · subst hbP
        exact ⟨_, grown⟩
      · exact ⟨o, keepA b o hbP e⟩
end
/-- the goal that the head leaves -/
theorem walkP {l : PySem.W.OpenLaw} {n k : Nat} {q : Program} {loose : List Str} {XP : (Str → Option Value) → Heap → Prop} {YP : World → Heap → Prop} {d : DefRec} {x : Str} (hn : l.most = some n) (hn2 : n ≤ sizeLine) (hdf : d.params.defaults = []) (hr : Room k callerA)
    (F : ∀ (w : World) (mg : Str → Option Value) (fa : Addr) (h : Heap), YP w h → h.Ns mainGlobals mg → mg d.name = some (.ref fa) →
      ∃ (K : PySem.W.Frag) (fd : FuncData) (sp : Sp), K.In h ∧ (∀ (s : Shared) (u : Value), BindsTo s fd ⟨[u], []⟩ [(x, u)]) ∧
        (∀ (H : Hp) (a : Addr) (ns : List Int), ns.length ≤ n → SqL K H a (ns.map V.int) → sp [.ref a] H (fun v _ => v = .bl true) fun _ _ _ => False) ∧ SysD h ∧ ∀ base : Heap, SysD base → FnP l.prog w K mg base (L2.CX l.prog w) k fa fd [x] sp) :
    PySem.W.WalkO q loose XP YP l.row.toRowW d [] (fun f vs => PySem.call f vs) := by
  refine Att.attach_call hn hdf fun w s₀ s₁ mg mb fa o pm cd doc a vs ns G Y ho hd hcd hmg hobj hints hlen hg => ?_
  obtain ⟨K, fd, sp, kin, hb, hsp, hsd, hF⟩ := F w mg fa _ Y G.T.g hmg
  exact law_callP kin G.T.g G.T.b G.T.builtins G.T.nolimit hg hobj hints (Nat.le_trans hlen hn2) hr hsd hF hb fun H sq => hsp H a ns hlen sq
theorem law_spL {K : PySem.W.Frag} {mg : Str → Option Value} {T : List Fd} {d g : Nat} {lq : Str} {ns : List Int} {a : Addr} {H : Hp} (hp : H (He.cT K ("law", none)).2 = some (.tbl #[])) (h : ∃ m, callN T d g [.d (.list (ns.map .int))] [.tab lq] = .ok (.d (.bool true)) m) (sq : SqL K H a (ns.map V.int)) :
    spN K mg T d g 1 [.ref a] H (fun v _ => v = .bl true) fun _ _ _ => False := by
  obtain ⟨m, h⟩ := h
  have na : a ≠ (He.cT K ("law", none)).2 ∨ WL K a (ns.map V.int) := by
    rcases sqL_split sq with q | q
    · left
      rintro rfl
      rcases q with q | ⟨o, q⟩ <;> (rw [hp] at q; cases q)
    · exact .inr q
  refine ⟨[(He.cT K ("law", none)).2], [.d (.list (ns.map .int))], [.tab lq], .cons ?_ .nil, rfl, ⟨rfl, by simp, fun l o a h1 h2 => ?_⟩, ?_⟩
  · refine DR.lst ?_ (drs_ints ns)
    rcases na with na | q
    · rcases sqL_split sq with q | q
      · exact .inl ⟨q, by simpa using na⟩
      · exact .inr q
    · exact .inr q
  · match l, h1, h2 with
    | 0, h1, h2 =>
      cases h1
      cases h2
      exact ⟨rfl, #[], hp, True.intro, fun pos cv hc => by
        have z : codeAmong pos [] = some cv := hc
        simp [codeAmong] at z⟩
    | l + 1, h1, _ => simp at h1
  · rw [h]
    intro H' ρ' _ _ x r
    cases r
    rfl
theorem walkL {l : PySem.W.OpenLaw} {n k : Nat} {q : Program} {loose : List Str} {XP : (Str → Option Value) → Heap → Prop} {YP : World → Heap → Prop} {d : DefRec} {x : Str} (hn : l.most = some n) (hn2 : n ≤ sizeLine) (hdf : d.params.defaults = []) (hr : Room k callerA)
    (F : ∀ (w : World) (mg : Str → Option Value) (fa : Addr) (h : Heap), YP w h → h.Ns mainGlobals mg → mg d.name = some (.ref fa) →
      ∃ (K : PySem.W.Frag) (fd : FuncData) (sp : Sp) (c P' : Addr), K.In h ∧ (∀ (s : Shared) (u : Value), BindsTo s fd ⟨[u], []⟩ [(x, u)]) ∧ h.get? P' = some { cls := .none, data := .fields #[] } ∧ K.lookup P' = none ∧ PySem.W.CodeHd h c P' ∧
        (∀ (H : Hp) (a : Addr) (ns : List Int), ns.length ≤ n → H P' = some (.tbl #[]) → SqL K H a (ns.map V.int) → sp [.ref a] H (fun v _ => v = .bl true) fun _ _ _ => False) ∧ SysD h ∧ ∀ base : Heap, SysD base → LamX.TabB base mg c P' → FnP l.prog w K mg base (L2.CX l.prog w) k fa fd [x] sp) :
    PySem.W.WalkO q loose XP YP l.row.toRowW d [] (fun f vs => PySem.call f vs) := by
  refine Att.attach_callB hn hdf fun w s₀ s₁ mg mb fa o pm cd doc a vs ns G Y ho hd hcd hmg hobj hints hlen hbits hg => ?_
  obtain ⟨K, fd, sp, c, P', kin, hb, hT, nT, C, hsp, hsd, hF⟩ := F w mg fa _ Y G.T.g hmg
  exact law_callL kin G.T.g G.T.b G.T.builtins G.T.nolimit hg hobj hints (Nat.le_trans hlen hn2) hr hT nT C G.T.bmain hsd hF hb fun H hH sq => hsp H a ns hlen hH sq
end Ev

set_option maxHeartbeats 4000000
/-! Ev: what the head's facts give. -/
namespace Ev
open PySem PySem.Spec PyProof.Rows L2
set_option autoImplicit false
section
variable {K : PySem.W.Frag} {h : Heap} {mg : Str → Option Value} {fa : List He.Fa} {dd : List He.DefD}
theorem says_all (c : He.SaysD fa dd K) : ∀ f ∈ fa, f.ok K = true := fun f hf => by
  obtain ⟨i, hi⟩ := List.mem_iff_getElem?.mp hf
  exact c.fact i hi
def isGlo (x : Str) : He.Fa → Bool
  | .glo y => decide (x = y)
  | _ => false
theorem says_glo (X : K.In h) (G : h.Ns mainGlobals mg) (c : He.SaysD fa dd K) {x : Str} (hx : fa.any (fun f => isGlo x f) = true) : mg x = some (.ref (He.ga K x)) := by
  obtain ⟨f, hf, e⟩ := List.any_eq_true.mp hx
  cases f with
  | glo y =>
    have e : x = y := of_decide_eq_true e
    subst e
    exact He.glo_ok X G (says_all c _ hf)
  | _ => cases e
theorem says_free (X : K.In h) (G : h.Ns mainGlobals mg) (c : He.SaysD fa dd K) {xs : List Str} (hx : ∀ x ∈ xs, He.Fa.free x ∈ fa) : ∀ x ∈ xs, mg x = none := fun x h => He.free_ok X G (says_all c _ (hx x h))
def gkB (fa : List He.Fa) (p : Str × PyData) : Bool := match p.2 with
  | .int i => fa.any fun f => (match f with | .int y j => decide (y = p.1) && decide (j = i) | _ => false)
  | .str z => fa.any fun f => (match f with | .str y j => decide (y = p.1) && decide (j = z) | _ => false)
  | _ => false
theorem says_gk (X : K.In h) (G : h.Ns mainGlobals mg) (c : He.SaysD fa dd K) {gks : List (Str × PyData)} (hx : (gks.all fun p => gkB fa p) = true) :
    ∀ x d, (x, d) ∈ gks → ∃ u v, mg x = some u ∧ RelV v u ∧ DR K (fun _ => none) [] d v := fun x d hm => by
  have q := List.all_eq_true.mp hx (x, d) hm
  cases d with
  | int i =>
    obtain ⟨f, hf, e⟩ := List.any_eq_true.mp (show (fa.any fun f => (match f with | .int y j => decide (y = x) && decide (j = i) | _ => false)) = true from q)
    cases f with
    | int y j =>
      simp only [Bool.and_eq_true, decide_eq_true_eq] at e
      obtain ⟨rfl, rfl⟩ := e
      obtain ⟨t, e⟩ := He.int_ok X G (says_all c _ hf)
      exact ⟨_, .int _, e, ⟨t, rfl⟩, .int _⟩
    | _ => cases e
  | str z =>
    obtain ⟨f, hf, e⟩ := List.any_eq_true.mp (show (fa.any fun f => (match f with | .str y j => decide (y = x) && decide (j = z) | _ => false)) = true from q)
    cases f with
    | str y j =>
      simp only [Bool.and_eq_true, decide_eq_true_eq] at e
      obtain ⟨rfl, rfl⟩ := e
      obtain ⟨t, e⟩ := He.str_ok X G (says_all c _ hf)
      exact ⟨_, .str _, e, ⟨t, rfl⟩, .str _⟩
    | _ => cases e
  | _ => cases q
/-- the classes that fly -/
def excCB (K : PySem.W.Frag) (D : Addr) : Bool :=
  decide (PySem.W.findIn K (.ref D) "__getattribute__" = some (some (.builtin "BaseException.__getattribute__"))) && decide (PySem.W.findIn K (.ref D) "__getattr__" = some none) && decide (PySem.W.subIn K (.ref D) (.type "BaseException") = some true) &&
    PySem.W.hasDictIn K D && decide (PySem.W.findIn K (.ref D) "__class__" = some (some (.builtin "object.__class__"))) && decide (PySem.W.specialIn K (.builtin "object.__class__") "__get__" = some (some (.builtin "getset_descriptor.__get__"))) &&
    decide (PySem.W.takesIn K (.builtin "object.__class__") = some true) && decide (PySem.W.mroIn K D (.type "object") = some true)
theorem excCB_ok {D : Addr} (h : excCB K D = true) : ExcC K D := by
  unfold excCB at h
  simp only [Bool.and_eq_true, decide_eq_true_eq] at h
  obtain ⟨⟨⟨⟨⟨⟨⟨h1, h2⟩, h3⟩, h4⟩, h5⟩, h6⟩, h7⟩, h8⟩ := h
  exact ⟨h1, h2, h3, h4, h5, h6, h7, h8⟩
def clsB (K : PySem.W.Frag) (x : Str) : Bool :=
  PySem.W.excIn K (He.ga K x) He.veBase "ValueError.__new__" && decide (PySem.W.nsIn K mainGlobals x = some (some (.ref (He.ga K x)))) && PySem.W.keepIn K (.ref (He.ga K x)) &&
    decide (PySem.W.subIn K (.ref (He.ga K x)) (.type "BaseException") = some true) && decide (PySem.W.typeIn K (.ref (He.ga K x)) = some (.type "type")) && !(x == ("__debug__" : Str))
theorem says_cls (X : K.In h) (G : h.Ns mainGlobals mg) {x : Str} (hb : clsB K x = true) : ClsN K mg x := by
  unfold clsB at hb
  simp only [Bool.and_eq_true, decide_eq_true_eq, Bool.not_eq_true'] at hb
  obtain ⟨⟨⟨⟨⟨h1, h2⟩, h3⟩, h4⟩, h5⟩, h6⟩ := hb
  exact ⟨_, _, _, _, _, F.excBase_ValueError, h1, PySem.W.mg_of X G h2, h3, h4, h5, h6⟩
/-- any class that may fly -/
def clsA (K : PySem.W.Frag) (x : Str) : Bool := decide (PySem.W.nsIn K mainGlobals x = some (some (.ref (He.ga K x)))) && excCB K (He.ga K x)
theorem says_clsA (X : K.In h) (G : h.Ns mainGlobals mg) {x : Str} (hb : clsA K x = true) : ClsOk K mg x := by
  unfold clsA at hb
  simp only [Bool.and_eq_true, decide_eq_true_eq] at hb
  exact ⟨_, PySem.W.mg_of X G hb.1, excCB_ok hb.2⟩
def iniB (K : PySem.W.Frag) (B initId : String) : Bool := match PySem.W.findCls K (.type B) (.type "type") "__init__" with
  | some (.val v) => decide (v = .builtin initId)
  | _ => false
theorem iniB_ok {B initId : String} (e : iniB K B initId = true) : PySem.W.findCls K (.type B) (.type "type") "__init__" = some (.val (.builtin initId)) := by
  unfold iniB at e
  split at e
  · rename_i v q
    rw [q, of_decide_eq_true e]
  · cases e
/-- .. that keeps a field -/
def xclB (B newId initId : String) (bmB : List Value) (K : PySem.W.Frag) (x f : Str) : Bool :=
  iniB K B initId && PySem.W.excInitIn K (He.ga K x) bmB newId && PySem.W.excOver K (He.ga K x) bmB &&
    decide (PySem.W.findIn K (.ref (He.ga K x)) "__setattr__" = some (some (.builtin "object.__setattr__"))) && decide (PySem.W.takerIn K (He.ga K x) f = some none) && decide (PySem.W.findIn K (.ref (He.ga K x)) f = some none) &&
    decide (PySem.W.subIn K (.ref (He.ga K x)) (.type "BaseException") = some true) && decide (PySem.W.typeIn K (.ref (He.ga K x)) = some (.type "type")) && PySem.W.keepIn K (.ref (He.ga K x)) &&
    decide (PySem.W.findIn K (.ref (He.ga K x)) "__init__" = some (some (.ref (He.fAd K (x, some "__init__"))))) && decide (PySem.W.typeIn K (.ref (He.fAd K (x, some "__init__"))) = some (.type "function")) && xfB K (He.ga K x) &&
    decide (PySem.W.nsIn K mainGlobals x = some (some (.ref (He.ga K x)))) && decide (PySem.W.nsIn K mainGlobals (Str.ofString B) = some none) && !(x == ("__debug__" : Str))
theorem says_x {B newId initId : String} {bmB : List Value} (F : BaseF B newId initId bmB) (X : K.In h) (G : h.Ns mainGlobals mg) {x f qual : Str} (hb : xclB B newId initId bmB K x f = true) {P : Program} {w : World} {params : Arguments} {body : List Stmt} {scope : Scope} {fd : FuncData} {N : List Str}
    (D : FunD K "__init__" qual params body scope [] [] (He.fAd K (x, some "__init__")) fd) (S : FnScope N N scope) (nd : N.Nodup) (hbo : initB B f N scope body = true) (bn : Binds K fd N []) (base : Heap) : ClsX P w K mg base x f := by
  unfold xclB at hb
  simp only [Bool.and_eq_true, decide_eq_true_eq, Bool.not_eq_true'] at hb
  obtain ⟨⟨⟨⟨⟨⟨⟨⟨⟨⟨⟨⟨⟨⟨h1, h2⟩, h3⟩, h4⟩, h5⟩, h6⟩, h7⟩, h8⟩, h9⟩, h10⟩, h11⟩, h12⟩, h13⟩, h14⟩, h15⟩ := hb
  have T : XCls K (He.ga K x) (He.fAd K (x, some "__init__")) f B newId initId bmB := ⟨iniB_ok h1, h2, h3, h4, h5, h6, h7, h8, h9, h10, h11, xfB_ok h12⟩
  exact ⟨_, _, B, newId, initId, bmB, fd, N, F, T, PySem.W.mg_of X G h13, h15, bn, xinit (k := 0) F T D S nd hbo (PySem.W.mg_none_of X G h14)⟩
/-- a table of functions -/
def tfK (K : PySem.W.Frag) (x : Str) (ys : List (Str × Str)) : Bool := ys.all fun p => decide (PySem.W.nsIn K (He.ga K x) p.1 = some (some (.ref (He.ga K p.2)))) && decide (PySem.W.nsIn K mainGlobals p.2 = some (some (.ref (He.ga K p.2))))
def cvIn (K : PySem.W.Frag) (y : Str) : Option Value := match PySem.W.nsIn K mainGlobals y with
  | some (some v) => some v
  | some none => bootBuiltins y
  | none => none
def clsV : Value → Bool
  | .ref _ => true
  | .type _ => true
  | _ => false
def emB (K : PySem.W.Frag) (p : Str × Str × Bool) : Bool := match cvIn K p.2.1 with
  | some cv => clsV cv && decide (PySem.W.kitOne K (.ref (He.ga K p.1)) cv = some p.2.2) && decide (PySem.W.exmOne K (.ref (He.ga K p.1)) cv = some p.2.2) && decide (PySem.W.nsIn K mainGlobals p.1 = some (some (.ref (He.ga K p.1)))) && nmOk p.2.1
  | none => false
theorem says_em (X : K.In h) (G : h.Ns mainGlobals mg) {x y : Str} {b : Bool} (hb : emB K (x, y, b) = true) : EmOk K mg x y b := by
  unfold emB at hb
  split at hb
  · rename_i cv hcv
    simp only [Bool.and_eq_true, decide_eq_true_eq] at hb
    obtain ⟨⟨⟨⟨h1, h2⟩, h3⟩, h4⟩, h5⟩ := hb
    obtain ⟨n1, _, n3⟩ := nm_of h5
    refine ⟨_, cv, PySem.W.mg_of X G h4, ⟨n1, ?_, ?_⟩, h2, h3⟩
    · unfold cvIn at hcv
      split at hcv
      · rename_i v q
        cases hcv
        exact .inl (PySem.W.mg_of X G q)
      · rename_i q
        exact .inr ⟨PySem.W.mg_none_of X G q, hcv, n3⟩
      · cases hcv
    · cases cv with
      | ref D => exact .inl ⟨D, rfl⟩
      | type t => exact .inr ⟨t, rfl⟩
      | _ => cases h1
  · cases hb
end
/-! ### the dict of the modules, too -/
def sysB (o : Option Obj) : Bool := match o with
  | some ⟨_, _, .dict _ _, _⟩ => true
  | _ => false
theorem sysB_ok {h : Heap} (e : sysB (h.get? sysModules) = true) : SysD h := by
  cases q : h.get? sysModules with
  | none => rw [q] at e; cases e
  | some o =>
    obtain ⟨oc, od, dt, sl⟩ := o
    rw [q] at e
    cases dt with
    | dict es n => exact ⟨_, es, n, q, rfl⟩
    | _ => cases e
def hookY (n : Nat) (fa : List He.Fa) (fn : List He.DefD) (ts : List He.Tab) (tf : List He.Defn) (ex : PySem.W.Frag → Bool) : PySem.W.Hook where
  α := He.AlX × Bool
  obs := fun s => (He.obsX n fa fn ts tf ex s.heap.get?, sysB (s.heap.get? sysModules))
  val := fun w => (He.valX fn ts w, true)
  says := fun w h => (∃ K : PySem.W.Frag, K.In h ∧ He.SaysX fa fn ts tf ex w h K) ∧ SysD h
  of := fun _ _ e => ⟨⟨_, He.frT_in, He.saysX_of (congrArg (fun z : He.AlX × Bool => z.1) e)⟩, sysB_ok (congrArg (fun z : He.AlX × Bool => z.2) e)⟩
  keeps := fun _ _ _ ⟨⟨K, hK, c⟩, o, es, m, e, d⟩ k => ⟨⟨K, PySem.W.Frag.In.keeps hK k, ⟨c.t, c.more, c.hd, c.out, fun p hp => k _ _ (c.empty p hp)⟩⟩, o, es, m, k _ _ e, d⟩
theorem obsY_eq {n : Nat} {fa : List He.Fa} {fn : List He.DefD} {ts : List He.Tab} {tf : List He.Defn} {ex : PySem.W.Frag → Bool} {g : Addr → Option Obj} {s : Shared} (h : ∀ a, g a = s.heap.get? a) :
    ((He.obsX n fa fn ts tf ex g, sysB (g sysModules)) : He.AlX × Bool) = (hookY n fa fn ts tf ex).obs s := by
  have e : g = s.heap.get? := funext h
  rw [e] <;> rfl
/-- a table of the top: its keys -/
theorem find_keys {P : Params} : ∀ {es : List DictEntry} {ks : List Str}, es.map He.keyOf = He.keysIn P ks → ∀ z : Str,
    ((es.find? (·.key.isStr z)).isSome = ks.contains z) ∧ es.any (·.refKey) = false
  | [], [], _, z => ⟨rfl, rfl⟩
  | [], _ :: _, h, _ => by cases h
  | _ :: _, [], h, _ => by cases h
  | e :: es, k :: ks, h, z => by
    have h1 : He.keyOf e :: es.map He.keyOf = some (k, PyData.keyHash P k) :: He.keysIn P ks := h
    injection h1 with h2 h3
    obtain ⟨q1, q2⟩ := find_keys h3 z
    unfold He.keyOf at h2
    split at h2
    · rename_i x t q
      have h4 := Option.some.inj h2
      obtain ⟨rfl, h5⟩ := Prod.mk.inj h4
      have r1 : e.refKey = false := by unfold DictEntry.refKey; rw [q]
      have r2 : e.key.isStr z = (x == z) := by rw [q]; rfl
      refine ⟨?_, by rw [List.any_cons, r1, q2]; rfl⟩
      rw [List.find?_cons, r2, List.contains_cons]
      cases w : (x == z) with
      | true =>
        have : (z == x) = true := by rw [beq_iff_eq] at w ⊢; exact w.symm
        rw [this]
        rfl
      | false =>
        have : (z == x) = false := by
          rw [beq_eq_false_iff_ne] at w ⊢
          exact fun e => w e.symm
        rw [this, Bool.false_or]
        exact q1
    · cases h2
section
variable {K : PySem.W.Frag} {h : Heap} {mg : Str → Option Value} {fa : List He.Fa} {dd : List He.DefD}
theorem says_tb {w : World} (X : K.In h) (G : h.Ns mainGlobals mg) (c : He.SaysD fa dd K) {x : Str} {ks : List Str} (hx : fa.any (fun f => isGlo x f) = true) (e : He.dicW K (He.ga K x) = some (He.keysIn w.params ks)) :
    ∃ d es n, mg x = some (.ref d) ∧ KDict K w d es n ∧ ∀ z, ∃ r, PySem.W.nsIn K d z = some r ∧ r.isSome = ks.contains z := by
  obtain ⟨es, n, D⟩ := He.dicW_ok e
  refine ⟨_, es, n, says_glo X G c hx, D, fun z => ?_⟩
  have q : es.toList.map He.keyOf = He.keysIn w.params ks := by
    unfold He.dicW at e
    rw [D.at_] at e
    simp only at e
    split at e
    · exact Option.some.inj e
    · cases e
  obtain ⟨q1, q2⟩ := find_keys q z
  unfold PySem.W.nsIn
  rw [D.at_]
  simp only
  cases f : es.toList.find? (·.key.isStr z) with
  | some o => rw [f] at q1; exact ⟨_, rfl, q1⟩
  | none => rw [f] at q1; rw [if_neg (by rw [q2]; exact Bool.false_ne_true)]; exact ⟨_, rfl, q1⟩
theorem says_tf {w : World} (X : K.In h) (G : h.Ns mainGlobals mg) (c : He.SaysD fa dd K) {x : Str} {ks : List Str} {tb : List (Str × Nat)} {ys : List (Str × Str)} {fs : List (Str × Nat × List (Str × PyData))} (hx : fa.any (fun f => isGlo x f) = true) (e : He.dicW K (He.ga K x) = some (He.keysIn w.params ks))
    (hk : tfK K x ys = true) (hy : (tb.all fun p => (match fs[p.2]? with
      | some (y, _, []) => ys.contains (p.1, y)
      | _ => false)) = true) : ∃ dk es n, mg x = some (.ref dk) ∧ KDict K w dk es n ∧ ∀ z g, tb.lookup z = some g → ∃ y m a, fs[g]? = some (y, m, []) ∧ mg y = some (.ref a) ∧ PySem.W.nsIn K dk z = some (some (.ref a)) := by
  obtain ⟨es, n, D⟩ := He.dicW_ok e
  refine ⟨_, es, n, says_glo X G c hx, D, fun z g hg => ?_⟩
  have q := List.all_eq_true.mp hy (z, g) (PySem.mem_of_lookup hg)
  cases hf : fs[g]? with
  | none => simp [hf] at q
  | some t =>
    obtain ⟨y, m, kw⟩ := t
    cases kw with
    | cons _ _ => simp [hf] at q
    | nil =>
      simp only [hf] at q
      have r := List.all_eq_true.mp hk (z, y) (List.contains_iff_mem.mp q)
      simp only [Bool.and_eq_true, decide_eq_true_eq] at r
      exact ⟨y, m, _, rfl, PySem.W.mg_of X G r.2, r.1⟩
end
end Ev

/-! Ev: lemmas for reckoning with denotations. -/
namespace Ev
open PySem
set_option autoImplicit false
/-- no instance in the memory -/
def LD (m : Mem) : Prop := ∀ o ∈ m, ∀ n, obOk n o = true
theorem LD.nil : LD [] := fun o h => by cases h
theorem LD.tab (q : Str) : LD [.tab q] := fun o h n => by
  rw [List.mem_singleton] at h
  subst h
  rfl
theorem LD.take {m : Mem} (h : LD m) (k n : Nat) : (m.take k).all (obOk n) = true := List.all_eq_true.mpr fun o ho => h o (List.mem_of_mem_take ho) n
theorem LD.app {m : Mem} (h : LD m) {o : Ob} (ho : ∀ n, obOk n o = true) : LD (m ++ [o]) := fun p hp => by
  rcases List.mem_append.mp hp with hp | hp
  · exact h p hp
  · rw [List.mem_singleton] at hp; subst hp; exact ho
theorem LD.appL {m : Mem} (h : LD m) (xs : List PyData) : LD (m ++ [.lst xs]) := h.app fun _ => rfl
theorem LD.appD {m : Mem} (h : LD m) (xs : List (PyData × PyData)) : LD (m ++ [.dct xs]) := h.app fun _ => rfl
theorem LD.set {m : Mem} (h : LD m) (i : Nat) {o : Ob} (ho : ∀ n, obOk n o = true) : LD (m.set i o) := fun p hp n => by
  rcases List.mem_or_eq_of_mem_set hp with hp | hp
  · exact h p hp n
  · subst hp; exact ho n
theorem LD.setL {m : Mem} (h : LD m) (i : Nat) (xs : List PyData) : LD (m.set i (.lst xs)) := h.set i fun _ => rfl
theorem close_more {m : Mem} (h : LD m) (d : PyData) (r : Mem) : closeC false m.length (.d d) (m ++ r) = .ok (.d d) m := by
  unfold closeC
  have e : (m ++ r).take m.length = m := by simp
  have e2 : m.all (obOk m.length) = true := by have := h.take m.length m.length; rwa [List.take_length] at this
  simp only [e, e2, List.length_append, Nat.le_add_right, decide_true, Bool.and_self, if_true, closeV]
theorem close_d {m : Mem} (h : LD m) (d : PyData) : closeC false m.length (.d d) m = .ok (.d d) m := by
  have := close_more h d []
  rwa [List.append_nil] at this
theorem close_len {m m' : Mem} (h : LD m') (e : m'.length = m.length) (d : PyData) : closeC false m.length (.d d) m' = .ok (.d d) m' := by rw [← e]; exact close_d h d
theorem close_lst {m : Mem} (h : LD m) (xs : List PyData) : closeC false m.length (.loc m.length) (m ++ [.lst xs]) = .ok (.d (.list xs)) m := by
  unfold closeC
  have e : (m ++ [Ob.lst xs]).take m.length = m := by simp
  have e2 : m.all (obOk m.length) = true := by have := h.take m.length m.length; rwa [List.take_length] at this
  have e3 : (m ++ [Ob.lst xs])[m.length]? = some (.lst xs) := by rw [List.getElem?_append_right (Nat.le_refl _)]; simp
  simp only [e, e2, e3, List.length_append, Nat.le_add_right, decide_true, Bool.and_self, if_true, closeV, Nat.lt_irrefl, if_false, rd, Option.map_some]
theorem close_dct {m : Mem} (h : LD m) (xs : List (PyData × PyData)) : closeC false m.length (.loc m.length) (m ++ [.dct xs]) = .ok (.d (.dict xs)) m := by
  unfold closeC
  have e : (m ++ [Ob.dct xs]).take m.length = m := by simp
  have e2 : m.all (obOk m.length) = true := by have := h.take m.length m.length; rwa [List.take_length] at this
  have e3 : (m ++ [Ob.dct xs])[m.length]? = some (.dct xs) := by rw [List.getElem?_append_right (Nat.le_refl _)]; simp
  simp only [e, e2, e3, List.length_append, Nat.le_add_right, decide_true, Bool.and_self, if_true, closeV, Nat.lt_irrefl, if_false, rd, Option.map_some]
theorem set_last {m : Mem} (o o' : Ob) : (m ++ [o]).set m.length o' = m ++ [o'] := by simp
theorem get_last {m : Mem} (o : Ob) : (m ++ [o])[m.length]? = some o := by simp
/-- a comprehension whose parts are values; B: the slots at an item -/
theorem lc_valsT {t : Tg} {c : Sl → Mem → Res Bool} {e : Sl → Mem → Res Vl} {m : Mem} {env : Sl} (B : PyData → Sl) (P : PyData → Bool) (F : PyData → PyData) : ∀ (items : List PyData) (acc : List PyData), acc.length + items.length ≤ sizeLine → (∀ x ∈ items, bindT t x env = some (B x)) →
    (∀ x ∈ items, ∀ a, c (B x) (m ++ [.lst a]) = .ok (P x) (m ++ [.lst a])) →
    (∀ x ∈ items, P x = true → ∀ a, e (B x) (m ++ [.lst a]) = .ok (.d (F x)) (m ++ [.lst a])) →
    lcLoop [] t m.length c e items env (m ++ [.lst acc]) = .ok () (m ++ [.lst (acc ++ (items.filter P).map F)])
  | [], acc, _, _, _, _ => by simp [lcLoop, same]
  | x :: xs, acc, hl, hb, hc, he => by
    have l1 : acc.length < sizeLine := by simp only [List.length_cons] at hl; omega
    unfold lcLoop
    simp only [same, if_true, hb x (List.mem_cons_self ..)]
    rw [hc x (List.mem_cons_self ..)]
    simp only [Res.bind]
    cases q : P x with
    | false =>
      simp only
      rw [lc_valsT B P F xs acc (by simp only [List.length_cons] at hl; omega) (fun y hy => hb y (List.mem_cons_of_mem _ hy)) (fun y hy => hc y (List.mem_cons_of_mem _ hy)) (fun y hy => he y (List.mem_cons_of_mem _ hy))]
      simp [q]
    | true =>
      simp only
      rw [he x (List.mem_cons_self ..) q]
      simp only [get_last, l1, if_true, set_last]
      rw [lc_valsT B P F xs (acc ++ [F x]) (by simp only [List.length_cons, List.length_append, List.length_nil] at hl ⊢; omega) (fun y hy => hb y (List.mem_cons_of_mem _ hy)) (fun y hy => hc y (List.mem_cons_of_mem _ hy)) (fun y hy => he y (List.mem_cons_of_mem _ hy))]
      simp [q]
theorem lc_vals {v : Nat} {c : Sl → Mem → Res Bool} {e : Sl → Mem → Res Vl} {m : Mem} {env : Sl} (P : PyData → Bool) (F : PyData → PyData) (items : List PyData) (acc : List PyData) (hl : acc.length + items.length ≤ sizeLine)
    (hc : ∀ x ∈ items, ∀ a, c (env.set v (some (.d x))) (m ++ [.lst a]) = .ok (P x) (m ++ [.lst a]))
    (he : ∀ x ∈ items, P x = true → ∀ a, e (env.set v (some (.d x))) (m ++ [.lst a]) = .ok (.d (F x)) (m ++ [.lst a])) :
    lcLoop [] (.nm v) m.length c e items env (m ++ [.lst acc]) = .ok () (m ++ [.lst (acc ++ (items.filter P).map F)]) := lc_valsT (fun x => env.set v (some (.d x))) P F items acc hl (fun _ _ => rfl) hc he
/-- the whole of it -/
theorem lc_allT {t : Tg} {c : Sl → Mem → Res Bool} {e : Sl → Mem → Res Vl} {m : Mem} {env : Sl} (hm : LD m) (B : PyData → Sl) (P : PyData → Bool) (F : PyData → PyData) (items : List PyData) (hl : items.length ≤ sizeLine) (hb : ∀ x ∈ items, bindT t x env = some (B x))
    (hc : ∀ x ∈ items, ∀ a, c (B x) (m ++ [.lst a]) = .ok (P x) (m ++ [.lst a])) (he : ∀ x ∈ items, P x = true → ∀ a, e (B x) (m ++ [.lst a]) = .ok (.d (F x)) (m ++ [.lst a])) :
    ((lcLoop [] t m.length c e items env (m ++ [.lst []])).bind fun _ m2 => closeC false m.length (.loc m.length) m2) = .ok (.d (.list ((items.filter P).map F))) m := by
  rw [lc_valsT B P F items [] (by simpa using hl) hb hc he]
  simp only [Res.bind, List.nil_append, close_lst hm]
theorem lc_all {v : Nat} {c : Sl → Mem → Res Bool} {e : Sl → Mem → Res Vl} {m : Mem} {env : Sl} (hm : LD m) (P : PyData → Bool) (F : PyData → PyData) (items : List PyData) (hl : items.length ≤ sizeLine)
    (hc : ∀ x ∈ items, ∀ a, c (env.set v (some (.d x))) (m ++ [.lst a]) = .ok (P x) (m ++ [.lst a])) (he : ∀ x ∈ items, P x = true → ∀ a, e (env.set v (some (.d x))) (m ++ [.lst a]) = .ok (.d (F x)) (m ++ [.lst a])) :
    ((lcLoop [] (.nm v) m.length c e items env (m ++ [.lst []])).bind fun _ m2 => closeC false m.length (.loc m.length) m2) = .ok (.d (.list ((items.filter P).map F))) m := lc_allT hm _ P F items hl (fun _ _ => rfl) hc he
/-- what a body hands back -/
def retOf : Res (Fl × Sl) → Res Vl
  | .ok (.ret v, _) m => .ok v m
  | .ok (.nx, _) m => .ok (.d .none) m
  | .ok _ _ => .stk
  | .err e m => .err e m
  | .stk => .stk
theorem retOf_bind {r : Res (Fl × Sl)} {v : Vl} {m' : Mem} {f : Vl → Mem → Res Vl} (h : retOf r = .ok v m') : (r.bind fun q m1 => (match flV q.1 with
    | some v => f v m1
    | none => .stk)) = f v m' := by
  cases r with
  | ok q m1 =>
    obtain ⟨fl, env⟩ := q
    cases fl <;> first | (cases h; rfl) | cases h
  | err e m1 => cases h
  | stk => cases h
/-- a call that gives data and leaves the memory -/
theorem call_data {T : List Fd} {n g : Nat} {f : Fd} {args : List Vl} {m : Mem} {d : PyData} (hm : LD m) (hf : T[g]? = some f) (hl : args.length = f.ps) (hk : f.keep = false)
    (hb : retOf (denSs (callN T n) f.body (args.map some ++ List.replicate (f.N.length - args.length) none) m) = .ok (.d d) m) : callN T (n + 1) g args m = .ok (.d d) m := by
  unfold callN
  simp only [hf, if_pos hl]
  refine Eq.trans (retOf_bind (f := fun v m1 => closeC f.keep m.length v m1) hb) ?_
  simp only [hk]; exact close_d hm d
theorem call_dataM {T : List Fd} {n g : Nat} {f : Fd} {args : List Vl} {m m' : Mem} {d : PyData} (hm : LD m') (hml : m'.length = m.length) (hf : T[g]? = some f) (hl : args.length = f.ps) (hk : f.keep = false)
    (hb : retOf (denSs (callN T n) f.body (args.map some ++ List.replicate (f.N.length - args.length) none) m) = .ok (.d d) m') : callN T (n + 1) g args m = .ok (.d d) m' := by
  unfold callN
  simp only [hf, if_pos hl]
  refine Eq.trans (retOf_bind (f := fun v m1 => closeC f.keep m.length v m1) hb) ?_
  simp only [hk]; exact close_len hm hml d
theorem call_keep {T : List Fd} {n g : Nat} {f : Fd} {args : List Vl} {m m' : Mem} {v : Vl} (hf : T[g]? = some f) (hl : args.length = f.ps) (hk : f.keep = true)
    (hb : retOf (denSs (callN T n) f.body (args.map some ++ List.replicate (f.N.length - args.length) none) m) = .ok v m') : callN T (n + 1) g args m = .ok v m' := by
  unfold callN
  simp only [hf, if_pos hl]
  refine Eq.trans (retOf_bind (f := fun v m1 => closeC f.keep m.length v m1) hb) ?_
  simp only [hk]; rfl
end Ev

/-! Ev: how long a shown thing is. -/
namespace Ev
open PySem
set_option autoImplicit false
mutual
/-- a bound on the length of what is shown -/
def cost : PyData → Nat
  | .none => 4
  | .bool _ => 5
  | .int _ => 600
  | .str x => (reprText x).length
  | .list xs => costA xs + 4
  | .tuple xs => costA xs + 4
  | .dict kvs => costK kvs + 4
def costA : List PyData → Nat
  | [] => 0
  | x :: r => cost x + 2 + costA r
def costK : List (PyData × PyData) → Nat
  | [] => 0
  | (k, v) :: r => cost k + cost v + 4 + costK r
end
set_option exponentiation.threshold 2000
theorem pow_digits : (2 : Nat) ^ 1920 < 10 ^ 598 := by decide +kernel
theorem int_len {i : Int} (h : i.natAbs.log2 < 1920) : ((toString i : String) : Str).length ≤ 600 := by
  have hn : i.natAbs < 10 ^ 598 := by
    rcases Nat.eq_zero_or_pos i.natAbs with h0 | h0
    · rw [h0]; exact Nat.pow_pos (by omega)
    · exact Nat.lt_trans ((Nat.log2_lt (by omega)).mp h) pow_digits
  have e : ((toString i : String) : Str).length = (toString i).length := PySem.ofString_length _
  rw [e]
  cases i with
  | ofNat n =>
    show (Nat.repr n).length ≤ 600
    have := (Nat.length_repr_le_iff (n := n) (k := 598) (by omega)).mpr hn
    omega
  | negSucc n =>
    have := (Nat.length_repr_le_iff (n := n + 1) (k := 598) (by omega)).mpr hn
    have e2 : toString (Int.negSucc n) = "-" ++ Nat.repr (n + 1) := rfl
    rw [e2, String.length_append]
    have e1 : ("-" : String).length = 1 := rfl
    omega
theorem textFrom_piled : ∀ (ts : List Str) (k : Nat) (acc : Str), (textFrom k acc ts).length ≤ acc.length + piled ts
  | [], k, acc => by show acc.length ≤ _; omega
  | t :: r, k, acc => by
    have h := textFrom_piled r (k + 1) (acc ++ (if k > 0 then ", " else "" : String) ++ t)
    have e : (acc ++ (if k > 0 then ", " else "" : String) ++ t).length = acc.length + (if k > 0 then 2 else 0) + t.length := by
      rw [strLen_append, strLen_append]
      split <;> rfl
    rw [e] at h
    rw [piled_cons]
    show (textFrom (k + 1) _ r).length ≤ _
    have e2 : (if k > 0 then 2 else 0) ≤ 2 := by split <;> omega
    exact Nat.le_trans h (by omega)
theorem listText_piled (ts : List Str) : (listText ts).length ≤ piled ts + 4 := by
  unfold listText
  rw [strLen_append]
  have h := textFrom_piled ts 0 "["
  have e1 : (("[" : String) : Str).length = 1 := rfl
  have e2 : (("]" : String) : Str).length = 1 := rfl
  omega
theorem join_piled (ts : List Str) : (Str.join ", " ts).length ≤ piled ts := by
  by_cases h : ts = []
  · subst h; exact Nat.le_refl _
  · have := join_length_add ts h; omega
theorem tupleText_piled (ts : List Str) : (tupleText ts).length ≤ piled ts + 4 := by
  unfold tupleText
  rw [strLen_append, strLen_append]
  have h := join_piled ts
  have e1 : (("(" : String) : Str).length = 1 := rfl
  have e3 : (((if ts.length == 1 then ",)" else ")" : String) : Str)).length ≤ 2 := by split <;> decide
  omega
theorem dictText_piled (ts : List Str) : (dictText ts).length ≤ piled ts + 4 := by
  unfold dictText
  rw [strLen_append, strLen_append]
  have h := join_piled ts
  have e1 : (("{" : String) : Str).length = 1 := rfl
  have e2 : (("}" : String) : Str).length = 1 := rfl
  omega
mutual
theorem shown_cost : ∀ d : PyData, d.showable = true → d.shown.length ≤ cost d
  | .none, _ => by simp only [PyData.shown, cost]; decide
  | .bool b, _ => by cases b <;> (simp only [PyData.shown, cost]; decide)
  | .int i, h => by
    simp only [PyData.showable, decide_eq_true_eq] at h
    simp only [PyData.shown, cost]
    exact int_len h
  | .str x, _ => by simp only [PyData.shown, cost]; exact Nat.le_refl _
  | .list xs, h => by
    simp only [PyData.showable] at h
    simp only [PyData.shown, cost]
    exact Nat.le_trans (listText_piled _) (Nat.add_le_add_right (shown_costA xs h) 4)
  | .tuple xs, h => by
    simp only [PyData.showable] at h
    simp only [PyData.shown, cost]
    exact Nat.le_trans (tupleText_piled _) (Nat.add_le_add_right (shown_costA xs h) 4)
  | .dict kvs, h => by
    simp only [PyData.showable] at h
    simp only [PyData.shown, cost]
    exact Nat.le_trans (dictText_piled _) (Nat.add_le_add_right (shown_costK kvs h) 4)
theorem shown_costA : ∀ xs : List PyData, PyData.showableAll xs = true → piled (PyData.shownAll xs) ≤ costA xs
  | [], _ => by simp only [PyData.shownAll, costA]; exact Nat.le_refl _
  | x :: r, h => by
    simp only [PyData.showableAll, Bool.and_eq_true] at h
    simp only [PyData.shownAll, costA, piled_cons]
    have h1 := shown_cost x h.1
    have h2 := shown_costA r h.2
    omega
theorem shown_costK : ∀ kvs : List (PyData × PyData), PyData.showableKv kvs = true → piled (PyData.shownKv kvs) ≤ costK kvs
  | [], _ => by simp only [PyData.shownKv, costK]; exact Nat.le_refl _
  | (k, v) :: r, h => by
    simp only [PyData.showableKv, Bool.and_eq_true] at h
    simp only [PyData.shownKv, costK, piled_cons, strLen_append]
    have h0 := shown_cost k h.1.1
    have h1 := shown_cost v h.1.2
    have h2 := shown_costK r h.2
    have e1 : ((": " : String) : Str).length = 2 := rfl
    omega
end
/-- what repr needs -/
def reprOk (d : PyData) : Bool := d.showable && decide (cost d ≤ sizeLine) && decide (d.depth ≤ 60)
theorem repr_ok {d : PyData} (h : reprOk d = true) : biP .repr1 [d] = some (.str d.shown) := by
  simp only [reprOk, Bool.and_eq_true, decide_eq_true_eq] at h
  obtain ⟨⟨h1, h2⟩, h3⟩ := h
  have h5 : d.shown.length ≤ sizeLine := Nat.le_trans (shown_cost d h1) h2
  simp only [biP, h1, h5, h3, decide_true, Bool.and_self, if_true]
theorem costA_append (xs ys : List PyData) : costA (xs ++ ys) = costA xs + costA ys := by
  induction xs with
  | nil => simp [costA]
  | cons x r ih => simp only [List.cons_append, costA, ih]; omega
theorem costA_le (B : Nat) : ∀ xs : List PyData, (∀ x ∈ xs, cost x ≤ B) → costA xs ≤ (B + 2) * xs.length
  | [], _ => by simp [costA]
  | x :: r, h => by
    have h1 := h x (List.mem_cons_self ..)
    have h2 := costA_le B r fun y hy => h y (List.mem_cons_of_mem _ hy)
    simp only [costA, List.length_cons, Nat.mul_add]
    omega
theorem showableAll_iff (xs : List PyData) : PyData.showableAll xs = xs.all PyData.showable := by
  induction xs with
  | nil => simp [PyData.showableAll]
  | cons x r ih => simp only [PyData.showableAll, List.all_cons, ih]
theorem depthAll_le (B : Nat) : ∀ xs : List PyData, (∀ x ∈ xs, x.depth ≤ B) → PyData.depthAll xs ≤ B
  | [], _ => by simp [PyData.depthAll]
  | x :: r, h => by
    have h1 := h x (List.mem_cons_self ..)
    have h2 := depthAll_le B r fun y hy => h y (List.mem_cons_of_mem _ hy)
    simp only [PyData.depthAll]
    omega
theorem hasDictAll_any (xs : List PyData) : PyData.hasDictAll xs = xs.any PyData.hasDict := by
  induction xs with
  | nil => simp [PyData.hasDictAll]
  | cons x r ih => simp only [PyData.hasDictAll, List.any_cons, ih]
theorem noLstA_all (xs : List PyData) : noLstA xs = xs.all noLst := by
  induction xs with
  | nil => simp [noLstA]
  | cons x r ih => simp only [noLstA, List.all_cons, ih]
/-! ### sizes of whole numbers -/
theorem log2_lt_of {n k : Nat} (h : n < 2 ^ k) (hk : 0 < k) : n.log2 < k := by
  rcases Nat.eq_zero_or_pos n with h0 | h0
  · subst h0; exact hk
  · exact (Nat.log2_lt (by omega)).mpr h
theorem mulOk_of {i j : Int} (a b : Nat) (ha : 0 < a) (hb : 0 < b) (hi : i.natAbs < 2 ^ a) (hj : j.natAbs < 2 ^ b) (h : a + b ≤ 1000000) : mulOk i j = true := by
  unfold mulOk
  have h1 := log2_lt_of hi ha
  have h2 := log2_lt_of hj hb
  exact decide_eq_true (by omega)
theorem atI_all {α : Type} {P : α → Prop} {xs : List α} {r : Int} (h0 : 0 ≤ r) (h1 : r < xs.length) (h : ∀ x ∈ xs, P x) : ∃ x, L2.atI xs r = some x ∧ P x := by
  have hb : r.toNat < xs.length := by omega
  refine ⟨xs[r.toNat], ?_, h _ (List.getElem_mem hb)⟩
  unfold L2.atI L2.ixN
  rw [if_pos h0, if_pos h1]
  show xs[r.toNat]? = _
  exact List.getElem?_eq_getElem hb
/-! ### operations at work -/
section
variable (i j : Int) (xs ys : List PyData) (b : Bool)
theorem o_len_l : biP .len [.list xs] = some (.int xs.length) := rfl
theorem o_len_t : biP .len [.tuple xs] = some (.int xs.length) := rfl
theorem o_abs : biP .abs [.int i] = some (.int (if i < 0 then -i else i)) := rfl
theorem o_max : biP .max2 [.int i, .int j] = some (.int (if j > i then j else i)) := rfl
theorem o_min : biP .min2 [.int i, .int j] = some (.int (if j < i then j else i)) := rfl
theorem o_int : biP .int1 [.int i] = some (.int i) := rfl
theorem o_intb : biP .int1 [.bool b] = some (.int (if b then 1 else 0)) := rfl
theorem o_tup_l : biP .tuple1 [.list xs] = some (.tuple xs) := rfl
theorem o_tup_t : biP .tuple1 [.tuple xs] = some (.tuple xs) := rfl
theorem o_list_l : biP .list1 [.list xs] = some (.list xs) := rfl
theorem o_list_t : biP .list1 [.tuple xs] = some (.list xs) := rfl
theorem o_all : biP .all1 [.list xs] = (bools xs).map fun bs => .bool (bs.all id) := rfl
theorem o_any : biP .any1 [.list xs] = (bools xs).map fun bs => .bool (bs.any id) := rfl
theorem o_max1 : biP .max1 [.list xs] = (intsOf xs).bind fun is => (maxI is).map .int := rfl
theorem o_min1 : biP .min1 [.list xs] = (intsOf xs).bind fun is => (minI is).map .int := rfl
theorem o_sum1 : biP .sum1 [.list xs] = (intsOf xs).map fun is => .int is.sum := rfl
theorem o_divmod (h : (decide (0 < j) && decide (j.natAbs.log2 < 9000)) = true) : biP .divmod2 [.int i, .int j] = some (.tuple [.int (i / j), .int (i % j)]) := if_pos h
theorem o_str (h : i.natAbs.log2 < 1920) : biP .str1 [.int i] = some (.str (toString i : String)) := if_pos h
theorem o_strs (x : Str) : biP .str1 [.str x] = some (.str x) := rfl
theorem o_add : binP .Add (.int i) (.int j) = some (.int (i + j)) := rfl
theorem o_add_l (h : xs.length + ys.length ≤ sizeLine) : binP .Add (.list xs) (.list ys) = some (.list (xs ++ ys)) := if_pos h
theorem o_add_t (h : xs.length + ys.length ≤ sizeLine) : binP .Add (.tuple xs) (.tuple ys) = some (.tuple (xs ++ ys)) := if_pos h
theorem o_sub : binP .Sub (.int i) (.int j) = some (.int (i - j)) := rfl
theorem o_mul : binP .Mult (.int i) (.int j) = if mulOk i j then some (.int (i * j)) else none := rfl
theorem o_mul_l (h : repOk xs.length i = true) : binP .Mult (.list xs) (.int i) = some (.list (repL xs i)) := if_pos h
theorem o_mul_t (h : repOk xs.length i = true) : binP .Mult (.tuple xs) (.int i) = some (.tuple (repL xs i)) := if_pos h
theorem o_div : binP .FloorDiv (.int i) (.int j) = if divOk j then some (.int (i.fdiv j)) else none := rfl
theorem o_mod : binP .Mod (.int i) (.int j) = if j = 0 then none else some (.int (i.fmod j)) := rfl
theorem o_pow : binP .Pow (.int i) (.int j) = if powOk i j then some (.int (i ^ j.toNat)) else none := rfl
theorem o_lt : cmpP .Lt (.int i) (.int j) = some (decide (i < j)) := rfl
theorem o_le : cmpP .LtE (.int i) (.int j) = some (decide (i ≤ j)) := rfl
theorem o_gt : cmpP .Gt (.int i) (.int j) = some (decide (j < i)) := rfl
theorem o_ge : cmpP .GtE (.int i) (.int j) = some (decide (j ≤ i)) := rfl
theorem o_eq : cmpP .Eq (.int i) (.int j) = some (i == j) := rfl
theorem o_ne : cmpP .NotEq (.int i) (.int j) = some (!(i == j)) := rfl
theorem o_nes (x y : Str) : cmpP .NotEq (.str x) (.str y) = some (!(x == y)) := rfl
theorem o_eqs (x y : Str) : cmpP .Eq (.str x) (.str y) = some (x == y) := rfl
theorem o_eqb (a b : Bool) : cmpP .Eq (.bool a) (.bool b) = some (a == b) := rfl
theorem o_eq0 (a b : PyData) : cmpP .Eq a b = eqP a b := rfl
theorem o_tn : truP .none = some false := rfl
theorem o_tb : truP (.bool b) = some b := rfl
theorem o_ti : truP (.int i) = some (i != 0) := rfl
theorem o_tl : truP (.list xs) = some (!xs.isEmpty) := rfl
theorem o_tt : truP (.tuple xs) = some (!xs.isEmpty) := rfl
theorem o_ixl : ixP (.list xs) (.int i) = L2.atI xs i := rfl
theorem o_ixt : ixP (.tuple xs) (.int i) = L2.atI xs i := rfl
theorem o_sll (l h : Option Int) : slP (.list xs) l h = some (.list (cutL xs l h)) := rfl
theorem o_slt (l h : Option Int) : slP (.tuple xs) l h = some (.tuple (cutL xs l h)) := rfl
end
theorem p_int_n  : isP "int" .none = false := by simp [isP, tyN]
theorem p_int_b (b : Bool) : isP "int" (.bool b) = true := by simp [isP, tyN]
theorem p_int_i (i : Int) : isP "int" (.int i) = true := by simp [isP, tyN]
theorem p_int_s (x : Str) : isP "int" (.str x) = false := by simp [isP, tyN]
theorem p_int_l (xs : List PyData) : isP "int" (.list xs) = false := by simp [isP, tyN]
theorem p_int_t (xs : List PyData) : isP "int" (.tuple xs) = false := by simp [isP, tyN]
theorem p_int_d (xs : List (PyData × PyData)) : isP "int" (.dict xs) = false := by simp [isP, tyN]
theorem p_bool_n  : isP "bool" .none = false := by simp [isP, tyN]
theorem p_bool_b (b : Bool) : isP "bool" (.bool b) = true := by simp [isP, tyN]
theorem p_bool_i (i : Int) : isP "bool" (.int i) = false := by simp [isP, tyN]
theorem p_bool_s (x : Str) : isP "bool" (.str x) = false := by simp [isP, tyN]
theorem p_bool_l (xs : List PyData) : isP "bool" (.list xs) = false := by simp [isP, tyN]
theorem p_bool_t (xs : List PyData) : isP "bool" (.tuple xs) = false := by simp [isP, tyN]
theorem p_bool_d (xs : List (PyData × PyData)) : isP "bool" (.dict xs) = false := by simp [isP, tyN]
theorem p_tuple_n  : isP "tuple" .none = false := by simp [isP, tyN]
theorem p_tuple_b (b : Bool) : isP "tuple" (.bool b) = false := by simp [isP, tyN]
theorem p_tuple_i (i : Int) : isP "tuple" (.int i) = false := by simp [isP, tyN]
theorem p_tuple_s (x : Str) : isP "tuple" (.str x) = false := by simp [isP, tyN]
theorem p_tuple_l (xs : List PyData) : isP "tuple" (.list xs) = false := by simp [isP, tyN]
theorem p_tuple_t (xs : List PyData) : isP "tuple" (.tuple xs) = true := by simp [isP, tyN]
theorem p_tuple_d (xs : List (PyData × PyData)) : isP "tuple" (.dict xs) = false := by simp [isP, tyN]
theorem p_list_n  : isP "list" .none = false := by simp [isP, tyN]
theorem p_list_b (b : Bool) : isP "list" (.bool b) = false := by simp [isP, tyN]
theorem p_list_i (i : Int) : isP "list" (.int i) = false := by simp [isP, tyN]
theorem p_list_s (x : Str) : isP "list" (.str x) = false := by simp [isP, tyN]
theorem p_list_l (xs : List PyData) : isP "list" (.list xs) = true := by simp [isP, tyN]
theorem p_list_t (xs : List PyData) : isP "list" (.tuple xs) = false := by simp [isP, tyN]
theorem p_list_d (xs : List (PyData × PyData)) : isP "list" (.dict xs) = false := by simp [isP, tyN]
theorem p_str_n  : isP "str" .none = false := by simp [isP, tyN]
theorem p_str_b (b : Bool) : isP "str" (.bool b) = false := by simp [isP, tyN]
theorem p_str_i (i : Int) : isP "str" (.int i) = false := by simp [isP, tyN]
theorem p_str_s (x : Str) : isP "str" (.str x) = true := by simp [isP, tyN]
theorem p_str_l (xs : List PyData) : isP "str" (.list xs) = false := by simp [isP, tyN]
theorem p_str_t (xs : List PyData) : isP "str" (.tuple xs) = false := by simp [isP, tyN]
theorem p_str_d (xs : List (PyData × PyData)) : isP "str" (.dict xs) = false := by simp [isP, tyN]
theorem p_dict_n  : isP "dict" .none = false := by simp [isP, tyN]
theorem p_dict_b (b : Bool) : isP "dict" (.bool b) = false := by simp [isP, tyN]
theorem p_dict_i (i : Int) : isP "dict" (.int i) = false := by simp [isP, tyN]
theorem p_dict_s (x : Str) : isP "dict" (.str x) = false := by simp [isP, tyN]
theorem p_dict_l (xs : List PyData) : isP "dict" (.list xs) = false := by simp [isP, tyN]
theorem p_dict_t (xs : List PyData) : isP "dict" (.tuple xs) = false := by simp [isP, tyN]
theorem p_dict_d (xs : List (PyData × PyData)) : isP "dict" (.dict xs) = true := by simp [isP, tyN]

/-! ### going on by statements -/
theorem seq_step {call : CallT} {s : CS} {r : CSs} {env env1 : Sl} {m m1 : Mem} {R : Res (Fl × Sl)} (h : denS call s env m = .ok (.nx, env1) m1) (h2 : denSs call r env1 m1 = R) : denSs call (.cons s r) env m = R := by
  simp only [denSs, h, Res.bind]; exact h2
theorem set_step {call : CallT} {i : Nat} {e : CE} {env : Sl} {m m1 : Mem} {v : Vl} (h : denE call e env m = .ok v m1) : denS call (.set i e) env m = .ok (.nx, env.set i (some v)) m1 := by
  simp only [denS, h, Res.bind]
theorem ret_step {call : CallT} {e : CE} {r : CSs} {env : Sl} {m m1 : Mem} {v : Vl} (h : denE call e env m = .ok v m1) : denSs call (.cons (.ret e) r) env m = .ok (.ret v, env) m1 := by
  simp only [denSs, denS, h, Res.bind]
theorem for_step {call : CallT} {t : Tg} {s : CI} {b : CSs} {env : Sl} {m m1 : Mem} {items : List PyData} {src : List (Nat × List PyData)} {R : Res (Fl × Sl)} (h : denI call s env m = .ok ⟨items, src⟩ m1) (h2 : forLoop src t (denSs call b) items env m1 = R) : denS call (.for_ t s b) env m = R := by
  simp only [denS, h, Res.bind]; exact h2
theorem lc_step {call : CallT} {t : Tg} {x : List Str} {s : CI} {c : CTs} {e : CE} {env : Sl} {m m1 m2 : Mem} {items acc : List PyData} {src : List (Nat × List PyData)} (h : denI call s env m = .ok ⟨items, src⟩ m1)
    (h2 : lcLoop src t m1.length (denTAnd call c) (denE call e) items env (m1 ++ [.lst []]) = .ok () (m2 ++ [.lst acc])) (hl : m2.length = m1.length) (hm : LD m2) : denE call (.lc false t x s c e) env m = .ok (.d (.list acc)) m2 := by
  simp only [denE, h, Res.bind, h2]
  rw [← hl]; exact close_lst hm acc
/-- a comprehension of values, as an expression -/
theorem lc_pure {call : CallT} {t : Tg} {x : List Str} {s : CI} {c : CTs} {e : CE} {env : Sl} {m : Mem} {items : List PyData} (hm : LD m) (B : PyData → Sl) (P : PyData → Bool) (F : PyData → PyData) (h : denI call s env m = .ok ⟨items, []⟩ m) (hl : items.length ≤ sizeLine) (hb : ∀ x ∈ items, bindT t x env = some (B x))
    (hc : ∀ x ∈ items, ∀ a, denTAnd call c (B x) (m ++ [.lst a]) = .ok (P x) (m ++ [.lst a])) (he : ∀ x ∈ items, P x = true → ∀ a, denE call e (B x) (m ++ [.lst a]) = .ok (.d (F x)) (m ++ [.lst a])) :
    denE call (.lc false t x s c e) env m = .ok (.d (.list ((items.filter P).map F))) m :=
  lc_step h (by rw [lc_valsT B P F items [] (by simpa using hl) hb hc he]; rfl) rfl hm
/-- the same without a test -/
theorem lc_map {call : CallT} {t : Tg} {x : List Str} {s : CI} {e : CE} {env : Sl} {m : Mem} {items : List PyData} (hm : LD m) (B : PyData → Sl) (F : PyData → PyData) (h : denI call s env m = .ok ⟨items, []⟩ m) (hl : items.length ≤ sizeLine) (hb : ∀ x ∈ items, bindT t x env = some (B x))
    (he : ∀ x ∈ items, ∀ a, denE call e (B x) (m ++ [.lst a]) = .ok (.d (F x)) (m ++ [.lst a])) :
    denE call (.lc false t x s .nil e) env m = .ok (.d (.list (items.map F))) m := by
  have k := lc_pure (c := .nil) (x := x) (e := e) hm B (fun _ => true) F h hl hb (fun x hx a => by simp only [denTAnd]) (fun x hx _ a => he x hx a)
  rw [List.filter_eq_self.mpr (fun _ _ => rfl)] at k
  exact k
theorem for_allT {t : Tg} {b : Sl → Mem → Res (Fl × Sl)} (J : Sl → Mem → Prop) : ∀ (items : List PyData) (env : Sl) (m : Mem), J env m → (∀ x ∈ items, ∀ env m, J env m → ∃ env0 env' m', bindT t x env = some env0 ∧ b env0 m = .ok (.nx, env') m' ∧ J env' m') →
    ∃ env' m', forLoop [] t b items env m = .ok (.nx, env') m' ∧ J env' m'
  | [], env, m, hj, _ => ⟨env, m, by simp [forLoop, same], hj⟩
  | x :: xs, env, m, hj, h => by
    obtain ⟨e0, e1, m1, hb, r1, j1⟩ := h x (List.mem_cons_self ..) env m hj
    obtain ⟨e2, m2, r2, j2⟩ := for_allT J xs e1 m1 j1 (fun y hy => h y (List.mem_cons_of_mem _ hy))
    refine ⟨e2, m2, ?_, j2⟩
    unfold forLoop
    simp only [same, if_true, hb, r1, Res.bind, r2]
theorem for_all {v : Nat} {b : Sl → Mem → Res (Fl × Sl)} (J : Sl → Mem → Prop) (items : List PyData) (env : Sl) (m : Mem) (hj : J env m) (h : ∀ x ∈ items, ∀ env m, J env m → ∃ env' m', b (env.set v (some (.d x))) m = .ok (.nx, env') m' ∧ J env' m') :
    ∃ env' m', forLoop [] (.nm v) b items env m = .ok (.nx, env') m' ∧ J env' m' :=
  for_allT J items env m hj fun x hx env m j => let ⟨e1, m1, h1, h2⟩ := h x hx env m j; ⟨_, e1, m1, rfl, h1, h2⟩
/-- a loop by what is left -/
theorem for_ind {t : Tg} {b : Sl → Mem → Res (Fl × Sl)} {C : Res (Fl × Sl) → Prop} (J : List PyData → Sl → Mem → Prop) (hn : ∀ env m, J [] env m → C (.ok (.nx, env) m))
    (hs : ∀ x xs env m, J (x :: xs) env m → ∃ env0, bindT t x env = some env0 ∧ ((∃ env' m', (b env0 m = .ok (.nx, env') m' ∨ b env0 m = .ok (.cont, env') m') ∧ J xs env' m') ∨ (∃ env' m', b env0 m = .ok (.brk, env') m' ∧ C (.ok (.nx, env') m')) ∨ (∃ env' m' v, b env0 m = .ok (.ret v, env') m' ∧ C (.ok (.ret v, env') m')) ∨ ∃ e m', b env0 m = .err e m' ∧ C (.err e m'))) :
    ∀ (items : List PyData) (env : Sl) (m : Mem), J items env m → C (forLoop [] t b items env m)
  | [], env, m, hj => by
    have e : forLoop [] t b [] env m = .ok (.nx, env) m := by simp [forLoop, same]
    rw [e]
    exact hn env m hj
  | x :: xs, env, m, hj => by
    obtain ⟨env0, hb, h⟩ := hs x xs env m hj
    unfold forLoop
    simp only [same, if_true, hb]
    rcases h with ⟨e1, m1, h1, j1⟩ | ⟨e1, m1, h1, c1⟩ | ⟨e1, m1, v, h1, c1⟩ | ⟨z, m1, h1, c1⟩
    · rcases h1 with h1 | h1 <;> (rw [h1]; exact for_ind J hn hs xs e1 m1 j1)
    · rw [h1]; exact c1
    · rw [h1]; exact c1
    · rw [h1]; exact c1
/-- a comprehension whose parts go on in the memory, told how far -/
theorem lc_stepsN {v L : Nat} {c : Sl → Mem → Res Bool} {e : Sl → Mem → Res Vl} {env : Sl} (I : Nat → Mem → Prop) (Y : PyData → Prop) (hc : ∀ env m, c env m = .ok true m) (hL : ∀ k m, I k m → m.length = L) (N : Nat) : ∀ (items acc : List PyData) (k : Nat) (m : Mem), acc.length + items.length ≤ sizeLine → k + items.length ≤ N → I k m →
    (∀ k m x a, k < N → x ∈ items → I k m → ∃ y m', e (env.set v (some (.d x))) (m ++ [.lst a]) = .ok (.d y) (m' ++ [.lst a]) ∧ Y y ∧ I (k + 1) m') →
    ∃ ys m', ys.length = items.length ∧ (∀ y ∈ ys, Y y) ∧ I (k + items.length) m' ∧ lcLoop [] (.nm v) L c e items env (m ++ [.lst acc]) = .ok () (m' ++ [.lst (acc ++ ys)])
  | [], acc, k, m, _, _, hi, _ => ⟨[], m, rfl, by simp, hi, by simp [lcLoop, same]⟩
  | x :: xs, acc, k, m, hl, hk, hi, he => by
    have l1 : acc.length < sizeLine := by simp only [List.length_cons] at hl; omega
    simp only [List.length_cons] at hk
    obtain ⟨y, m1, e1, hy, i1⟩ := he k m x acc (by omega) (List.mem_cons_self ..) hi
    obtain ⟨ys, m2, h1, h2, h3, h4⟩ := lc_stepsN I Y hc hL N xs (acc ++ [y]) (k + 1) m1 (by simp only [List.length_cons, List.length_append, List.length_nil] at hl ⊢; omega) (by omega) i1 (fun k m x a hk hx => he k m x a hk (List.mem_cons_of_mem _ hx))
    refine ⟨y :: ys, m2, by simp [h1], fun z hz => ?_, by simp only [List.length_cons]; rw [show k + (xs.length + 1) = k + 1 + xs.length by omega]; exact h3, ?_⟩
    · rcases List.mem_cons.mp hz with rfl | hz
      · exact hy
      · exact h2 z hz
    · unfold lcLoop
      have g : (m1 ++ [Ob.lst acc])[L]? = some (.lst acc) := by rw [← hL _ _ i1]; exact get_last _
      have g2 : ∀ o, (m1 ++ [Ob.lst acc]).set L o = m1 ++ [o] := fun o => by rw [← hL _ _ i1]; exact set_last _ _
      simp only [same, if_true, bindT, Res.bind, hc, e1, g, l1, g2, h4]
      simp
theorem call_top {T : List Fd} {n g : Nat} {f : Fd} {args : List Vl} {m' : Mem} {d : PyData} (hf : T[g]? = some f) (hl : args.length = f.ps) (hk : f.keep = false)
    (hb : retOf (denSs (callN T n) f.body (args.map some ++ List.replicate (f.N.length - args.length) none) []) = .ok (.d d) m') : callN T (n + 1) g args [] = .ok (.d d) [] := by
  unfold callN
  simp only [hf, if_pos hl]
  refine Eq.trans (retOf_bind (f := fun v m1 => closeC f.keep 0 v m1) hb) ?_
  simp [hk, closeC, closeV]
theorem cutL_mem {xs : List PyData} {lo hi : Option Int} {x : PyData} (h : x ∈ cutL xs lo hi) : x ∈ xs := List.mem_of_mem_drop (List.mem_of_mem_take h)
theorem cutL_len (xs : List PyData) (lo hi : Option Int) : (cutL xs lo hi).length ≤ xs.length := by
  unfold cutL
  simp only [List.length_take, List.length_drop]
  omega
theorem rngL_len (i j : Int) : (rngL i j).length = (j - i).toNat := by unfold rngL; simp
theorem itsOf_l (xs : List PyData) (m : Mem) : itsOf (.d (.list xs)) m = .ok ⟨xs, []⟩ m := rfl
/-- the end of the law: what was made within is left out -/
theorem call_topM {T : List Fd} {n g : Nat} {f : Fd} {args : List Vl} {m m' : Mem} {d : PyData} (hm : LD m') (hle : m.length ≤ m'.length) (hf : T[g]? = some f) (hl : args.length = f.ps) (hk : f.keep = false)
    (hb : retOf (denSs (callN T n) f.body (args.map some ++ List.replicate (f.N.length - args.length) none) m) = .ok (.d d) m') : ∃ m'', callN T (n + 1) g args m = .ok (.d d) m'' := by
  refine ⟨m'.take m.length, ?_⟩
  unfold callN
  simp only [hf, if_pos hl]
  refine Eq.trans (retOf_bind (f := fun v m1 => closeC f.keep m.length v m1) hb) ?_
  have e := hm.take m.length m.length
  simp only [hk, closeC, hle, e, decide_true, Bool.and_self, if_true, closeV]
theorem call_err {T : List Fd} {n g : Nat} {f : Fd} {args : List Vl} {m m' : Mem} {e : Exn} (hf : T[g]? = some f) (hl : args.length = f.ps)
    (hb : retOf (denSs (callN T n) f.body (args.map some ++ List.replicate (f.N.length - args.length) none) m) = .err e m') : callN T (n + 1) g args m = .err e m' := by
  unfold callN
  simp only [hf, if_pos hl]
  generalize denSs (callN T n) f.body (args.map some ++ List.replicate (f.N.length - args.length) none) m = r at hb
  cases r with
  | ok q m1 =>
    obtain ⟨fl, env⟩ := q
    cases fl <;> cases hb
  | err x m1 => cases hb; rfl
  | stk => cases hb
theorem for_consT {t : Tg} {b : Sl → Mem → Res (Fl × Sl)} {x : PyData} {xs : List PyData} {env env0 env1 : Sl} {m m1 : Mem} {R : Res (Fl × Sl)} (hb : bindT t x env = some env0) (h : b env0 m = .ok (.nx, env1) m1) (h2 : forLoop [] t b xs env1 m1 = R) : forLoop [] t b (x :: xs) env m = R := by
  unfold forLoop
  simp only [Ev.same, if_true, hb, h, Res.bind]
  exact h2
theorem for_cons {v : Nat} {b : Sl → Mem → Res (Fl × Sl)} {x : PyData} {xs : List PyData} {env env1 : Sl} {m m1 : Mem} {R : Res (Fl × Sl)} (h : b (env.set v (some (.d x))) m = .ok (.nx, env1) m1) (h2 : forLoop [] (.nm v) b xs env1 m1 = R) : forLoop [] (.nm v) b (x :: xs) env m = R := for_consT rfl h h2
theorem for_nil {t : Tg} {b : Sl → Mem → Res (Fl × Sl)} {env : Sl} {m : Mem} : forLoop [] t b [] env m = .ok (.nx, env) m := by simp [forLoop, Ev.same]
theorem zipD2 : ∀ (xs ys : List PyData), zipD [xs, ys] = (xs.zip ys).map fun p => .tuple [p.1, p.2] := fun xs ys => by
  apply List.ext_getElem?
  intro i
  unfold zipD
  have hm : minL [xs, ys] = min xs.length ys.length := rfl
  rw [List.getElem?_map, List.getElem?_map, hm]
  by_cases h : i < min xs.length ys.length
  · have h1 : i < xs.length := by omega
    have h2 : i < ys.length := by omega
    rw [List.getElem?_range h, List.getElem?_eq_getElem (by rw [List.length_zip]; exact h), List.getElem_zip]
    simp [List.getD_eq_getElem?_getD, List.getElem?_eq_getElem h1, List.getElem?_eq_getElem h2]
  · rw [List.getElem?_eq_none (by simpa using h), List.getElem?_eq_none (by rw [List.length_zip]; omega)]
    rfl
/-- x(lambda: e), by what e gives -/
theorem lam_step {T : List Fd} (hT : T.length ≤ 900) {n : Nat} {l : LamD} {q : Str} {e : CE} {env : Sl} {m : Mem} (hm : tabAt q m = true) : denE (callN T (n + 3)) (.lam l q e) env m = lamR l (denE (callN T (n + 1)) e env m) := by
  have e1 : T[1999]? = none := List.getElem?_eq_none (by omega)
  have e2 : T[999]? = none := List.getElem?_eq_none (by omega)
  have p : callN T (n + 3) 1999 [] m = .ok (.d .none) m := by
    rw [callN]
    simp only [e1]
    rw [if_neg (by omega), if_pos (by omega)]
    show callN T (n + 1) 999 [] m = _
    unfold callN
    simp only [e2, if_true]
  rw [denE, if_pos hm, p]
  show lamR l (denE (down (callN T (n + 1 + 2))) e env m) = _
  rw [callN_down hT]
end Ev

set_option maxHeartbeats 0
set_option exponentiation.threshold 3000
/-! Ev: the sack and its draws, over any table. -/
namespace Ev
open PySem
set_option autoImplicit false
def sackFd : Fd where
  name := "_law_sack"
  ps := 2
  kw := []
  N := ["script", "at", "cell", "great"]
  keep := true
  lam := false
  body := .cons (.set 2 (.bin .Add (.bin .Mult (.cst (.int 3)) (.var 1)) (.cst (.int 1)))) (.cons (.iff (.v (.cmp .Lt (.var 1) (.bi .len (.cons (.var 0) .nil)))) (.cons (.set 2 (.ix (.var 0) (.var 1))) .nil) (.nil)) (.cons (.set 3 (.bin .Mod (.bi .abs (.cons (.var 2) .nil)) (.bin .Pow (.bin .Pow (.cst (.int 10)) (.cst (.int 60))) (.cst (.int 12))))) (.cons (.ret (.lst true (.cons (.bi .max2 (.cons (.cst (.int 0)) (.cons (.bin .Sub (.var 3) (.bin .Pow (.cst (.int 10)) (.cst (.int 16)))) .nil))) (.cons (.bin .Mod (.bin .Add (.bin .Add (.bin .Add (.bin .Mult (.var 3) (.cst (.int 6700417))) (.bin .Mult (.cst (.int 524287)) (.var 1))) (.bin .Mult (.cst (.int 2)) (.bi .int1 (.cons (.cmp .Lt (.var 2) (.cst (.int 0))) .nil)))) (.cst (.int 11))) (.cst (.int 2147483647))) (.cons (.cst (.int 0)) .nil))))) .nil)))
def drawFd : Fd where
  name := "_law_draw"
  ps := 2
  kw := []
  N := ["sack", "many", "one", "stir", "two", "found"]
  keep := false
  lam := false
  body := .cons (.iff (.v (.cmp .Gt (.ix (.var 0) (.cst (.int 0))) (.cst (.int 0)))) (.cons (.set 5 (.bin .Mod (.ix (.var 0) (.cst (.int 0))) (.var 1))) (.cons (.setix (.var 0) (.cst (.int 0)) (.bin .FloorDiv (.ix (.var 0) (.cst (.int 0))) (.var 1))) (.cons (.ret (.var 5)) .nil))) (.nil)) (.cons (.setix (.var 0) (.cst (.int 2)) (.bin .Add (.ix (.var 0) (.cst (.int 2))) (.cst (.int 1)))) (.cons (.set 2 (.bin .Mod (.bin .Add (.ix (.var 0) (.cst (.int 1))) (.bin .Mult (.cst (.int 1299709)) (.ix (.var 0) (.cst (.int 2))))) (.cst (.int 2147483629)))) (.cons (.set 3 (.bin .Add (.bin .Mult (.bin .Mod (.bin .Mult (.var 2) (.var 2)) (.cst (.int 2147483587))) (.var 2)) (.bin .Mult (.cst (.int 7919)) (.ix (.var 0) (.cst (.int 2)))))) (.cons (.set 4 (.bin .Mod (.bin .Add (.var 3) (.bin .Mod (.ix (.var 0) (.cst (.int 1))) (.cst (.int 65521)))) (.cst (.int 2147483563)))) (.cons (.set 5 (.bin .Add (.bin .FloorDiv (.bin .Mod (.bin .Mult (.var 4) (.var 4)) (.cst (.int 2147483549))) (.cst (.int 32))) (.bin .Mult (.bin .Mult (.cst (.int 2147483563)) (.var 2)) (.bi .int1 (.cons (.cmp .Gt (.var 1) (.bin .Pow (.cst (.int 10)) (.cst (.int 6)))) .nil))))) (.cons (.ret (.bin .Mod (.var 5) (.var 1))) .nil))))))
theorem atI_ok {xs : List PyData} {k : Nat} (h : k < xs.length) : L2.atI xs (k : Int) = some xs[k] := by
  unfold L2.atI L2.ixN
  rw [if_pos (by omega), if_pos (by omega)]
  show xs[(k : Int).toNat]? = _
  rw [Int.toNat_natCast]
  exact List.getElem?_eq_getElem h
theorem a3_0 {x : PyData} {r : List PyData} : L2.atI (x :: r) 0 = some x := by
  unfold L2.atI L2.ixN
  rw [if_pos (Int.le_refl 0), if_pos (by simp only [List.length_cons]; omega)]; rfl
theorem a3_1 {x y : PyData} {r : List PyData} : L2.atI (x :: y :: r) 1 = some y := by
  unfold L2.atI L2.ixN
  rw [if_pos (by omega), if_pos (by simp only [List.length_cons]; omega)]; rfl
theorem a3_2 {x y z : PyData} {r : List PyData} : L2.atI (x :: y :: z :: r) 2 = some z := by
  unfold L2.atI L2.ixN
  rw [if_pos (by omega), if_pos (by simp only [List.length_cons]; omega)]; rfl
theorem mOk {i j : Int} (hi : i.natAbs < 2 ^ 100) (hj : j.natAbs < 2 ^ 100) : mulOk i j = true := mulOk_of 100 100 (by omega) (by omega) hi hj (by omega)
theorem sz_le {n : Nat} (h : n ≤ 1000) : (n ≤ sizeLine) = True := by unfold sizeLine; exact eq_true (by omega)
theorem LD.apps {m t : Mem} (h : LD m) (h2 : LD t) : LD (m ++ t) := fun o ho => (List.mem_append.mp ho).elim (h o) (h2 o)
theorem i3_0 : L2.ixN 3 0 = some 0 := rfl
theorem i3_1 : L2.ixN 3 1 = some 1 := rfl
theorem i3_2 : L2.ixN 3 2 = some 2 := rfl
/-! ### the sack -/
def Sk (m : Mem) (l k : Nat) : Prop := ∃ a b c : Int, m[l]? = some (.lst [.int a, .int b, .int c]) ∧ 0 ≤ a ∧ 0 ≤ b ∧ b < 2147483647 ∧ 0 ≤ c ∧ c ≤ k
def Dn (m : Mem) (l k : Nat) (m' : Mem) : Prop := LD m' ∧ (∃ xs, m' = m.set l (.lst xs)) ∧ Sk m' l k
theorem Sk.lt {m : Mem} {l k : Nat} (h : Sk m l k) : l < m.length := by
  obtain ⟨a, b, c, h, _⟩ := h
  exact (List.getElem?_eq_some_iff.mp h).1
theorem Sk.mono {m : Mem} {l k k' : Nat} (h : Sk m l k) (hk : k ≤ k') : Sk m l k' := by
  obtain ⟨a, b, c, h, h1, h2, h3, h4, h5⟩ := h
  exact ⟨a, b, c, h, h1, h2, h3, h4, by omega⟩
theorem Dn.mono {m m' : Mem} {l k k' : Nat} (h : Dn m l k m') (hk : k ≤ k') : Dn m l k' m' := ⟨h.1, h.2.1, h.2.2.mono hk⟩
theorem Dn.len {m m' : Mem} {l k : Nat} (h : Dn m l k m') : m'.length = m.length := by
  obtain ⟨_, ⟨xs, rfl⟩, _⟩ := h
  exact List.length_set ..
theorem Dn.trans {m m' m'' : Mem} {l k k' : Nat} (h : Dn m l k m') (h' : Dn m' l k' m'') : Dn m l k' m'' := by
  obtain ⟨_, ⟨xs, rfl⟩, _⟩ := h
  obtain ⟨g, ⟨ys, rfl⟩, g2⟩ := h'
  exact ⟨g, ⟨ys, by rw [List.set_set]⟩, g2⟩
theorem fm (x : Int) {M : Int} (h : 0 < M) : 0 ≤ x.fmod M ∧ x.fmod M < M := ⟨Int.fmod_nonneg_of_pos x h, Int.fmod_lt_of_pos x h⟩
theorem p6 : powOk 10 6 = true := by decide +kernel
theorem draw_run {T : List Fd} {g : Nat} (hg : T[g]? = some drawFd) (n : Nat) (m : Mem) (l k : Nat) (N : Int) (hm : LD m) (hs : Sk m l k) (hk : k ≤ 1000000000) (h0 : 0 < N) (h1 : N < 2 ^ 40) :
    ∃ r m', callN T (n + 1) g [.loc l, .d (.int N)] m = .ok (.d (.int r)) m' ∧ 0 ≤ r ∧ r < N ∧ Dn m l (k + 1) m' := by
  have hl := hs.lt
  obtain ⟨a, b, c, h, ha, hb, hb2, hc, hc2⟩ := hs
  have gs : ∀ o : Ob, (m.set l o)[l]? = some o := fun o => by simp [hl]
  have hd : divOk N = true := by
    unfold divOk
    have := log2_lt_of (n := N.natAbs) (k := 40) (by omega) (by omega)
    simp; omega
  have hN : ¬ N = 0 := by omega
  by_cases hp : 0 < a
  · refine ⟨a.fmod N, m.set l (.lst [.int (a.fdiv N), .int b, .int c]), call_dataM (f := drawFd) (hm.setL _ _) (List.length_set ..) hg rfl rfl ?_, (fm a h0).1, (fm a h0).2, hm.setL _ _, ⟨_, rfl⟩, a.fdiv N, b, c, gs _, ?_, hb, hb2, hc, by omega⟩
    · simp only [drawFd, List.map_cons, List.map_nil, List.length_cons, List.length_nil, List.replicate, List.cons_append, List.nil_append, List.getElem?_cons_zero, List.getElem?_cons_succ, List.set_cons_zero, List.set_cons_succ, Nat.reduceAdd, Nat.reduceSub, Nat.zero_add, denSs, denS, denE, denT, denTAnd, denTOr, denAnd, denOr, denEs, denO, denI, Res.bind, Res.bindN, rdd, rd, rds, dat, bol, mkL, dats, itsOf, setIx, isL, apIx, seqOf, setAll, bindT, bindTs, itsAll, p_int_n, p_int_b, p_int_i, p_int_s, p_int_l, p_int_t, p_int_d, p_bool_n, p_bool_b, p_bool_i, p_bool_s, p_bool_l, p_bool_t, p_bool_d, p_tuple_n, p_tuple_b, p_tuple_i, p_tuple_s, p_tuple_l, p_tuple_t, p_tuple_d, p_list_n, p_list_b, p_list_i, p_list_s, p_list_l, p_list_t, p_list_d, p_str_n, p_str_b, p_str_i, p_str_s, p_str_l, p_str_t, p_str_d, p_dict_n, p_dict_b, p_dict_i, p_dict_s, p_dict_l, p_dict_t, p_dict_d, Bool.true_or, Bool.or_true, Bool.false_or, Bool.or_false, Bool.true_and, Bool.and_true, Bool.false_and, Bool.and_false, Bool.not_true, Bool.not_false, o_len_l, o_len_t, o_abs, o_max, o_min, o_int, o_intb, o_tup_l, o_tup_t, o_list_l, o_list_t, o_all, o_any, o_divmod, o_max1, o_min1, o_sum1, o_str, o_strs, o_add, o_add_l, o_add_t, o_sub, o_mul, o_mul_l, o_mul_t, o_div, o_mod, o_pow, o_lt, o_le, o_gt, o_ge, o_eq, o_ne, o_nes, o_eqs, o_eqb, o_tn, o_tb, o_ti, o_tl, o_tt, o_ixl, o_ixt, o_sll, o_slt, if_true, if_false, decide_true, decide_false, retOf, Option.map_some, Bool.false_eq_true, h, a3_0, hp, hN, hd, i3_0]
    · exact Int.fdiv_nonneg (by omega) (by omega)
  · have d32 : divOk 32 = true := by decide +kernel
    have o1 := fm (b + 1299709 * (c + 1)) (M := 2147483629) (by omega)
    generalize hone : (b + 1299709 * (c + 1)).fmod 2147483629 = one at o1
    have q1 := fm (one * one) (M := 2147483587) (by omega)
    generalize hq : (one * one).fmod 2147483587 = q at q1
    have t1 := fm (q * one + 7919 * (c + 1) + b.fmod 65521) (M := 2147483563) (by omega)
    generalize htwo : (q * one + 7919 * (c + 1) + b.fmod 65521).fmod 2147483563 = two at t1
    have k1 : mulOk 1299709 (c + 1) = true := mOk (by omega) (by omega)
    have k2 : mulOk one one = true := mOk (by omega) (by omega)
    have k3 : mulOk q one = true := mOk (by omega) (by omega)
    have k4 : mulOk 7919 (c + 1) = true := mOk (by omega) (by omega)
    have k5 : mulOk two two = true := mOk (by omega) (by omega)
    have k6 : mulOk 2147483563 one = true := mOk (by omega) (by omega)
    have k7 : ∀ b : Bool, mulOk (2147483563 * one) (if b = true then 1 else 0) = true := fun b => mOk (by omega) (by cases b <;> decide)
    refine ⟨(((two * two).fmod 2147483549).fdiv 32 + 2147483563 * one * (if decide ((1000000 : Int) < N) = true then 1 else 0)).fmod N, m.set l (.lst [.int a, .int b, .int (c + 1)]), call_dataM (f := drawFd) (hm.setL _ _) (List.length_set ..) hg rfl rfl ?_, (fm _ h0).1, (fm _ h0).2, hm.setL _ _, ⟨_, rfl⟩, a, b, c + 1, gs _, ha, hb, hb2, by omega, by omega⟩
    · simp only [drawFd, List.map_cons, List.map_nil, List.length_cons, List.length_nil, List.replicate, List.cons_append, List.nil_append, List.getElem?_cons_zero, List.getElem?_cons_succ, List.set_cons_zero, List.set_cons_succ, Nat.reduceAdd, Nat.reduceSub, Nat.zero_add, denSs, denS, denE, denT, denTAnd, denTOr, denAnd, denOr, denEs, denO, denI, Res.bind, Res.bindN, rdd, rd, rds, dat, bol, mkL, dats, itsOf, setIx, isL, apIx, seqOf, setAll, bindT, bindTs, itsAll, p_int_n, p_int_b, p_int_i, p_int_s, p_int_l, p_int_t, p_int_d, p_bool_n, p_bool_b, p_bool_i, p_bool_s, p_bool_l, p_bool_t, p_bool_d, p_tuple_n, p_tuple_b, p_tuple_i, p_tuple_s, p_tuple_l, p_tuple_t, p_tuple_d, p_list_n, p_list_b, p_list_i, p_list_s, p_list_l, p_list_t, p_list_d, p_str_n, p_str_b, p_str_i, p_str_s, p_str_l, p_str_t, p_str_d, p_dict_n, p_dict_b, p_dict_i, p_dict_s, p_dict_l, p_dict_t, p_dict_d, Bool.true_or, Bool.or_true, Bool.false_or, Bool.or_false, Bool.true_and, Bool.and_true, Bool.false_and, Bool.and_false, Bool.not_true, Bool.not_false, o_len_l, o_len_t, o_abs, o_max, o_min, o_int, o_intb, o_tup_l, o_tup_t, o_list_l, o_list_t, o_all, o_any, o_divmod, o_max1, o_min1, o_sum1, o_str, o_strs, o_add, o_add_l, o_add_t, o_sub, o_mul, o_mul_l, o_mul_t, o_div, o_mod, o_pow, o_lt, o_le, o_gt, o_ge, o_eq, o_ne, o_nes, o_eqs, o_eqb, o_tn, o_tb, o_ti, o_tl, o_tt, o_ixl, o_ixt, o_sll, o_slt, if_true, if_false, decide_true, decide_false, retOf, Option.map_some, Bool.false_eq_true, h, a3_0, a3_1, a3_2, hp, hN, hd, i3_2, gs, k1, hone, k2, hq, k3, k4, htwo, k5, k6, k7, p6, d32, List.set_set, Int.reduceEq, Int.reducePow, Int.reduceToNat]

/-! ### the sack's making -/
set_option exponentiation.threshold 3000
theorem big_lt : (10 : Nat) ^ 720 < 2 ^ 2400 := by decide +kernel
theorem p60 : powOk 10 60 = true := by decide +kernel
theorem p6012 : powOk (10 ^ 60) 12 = true := by decide +kernel
theorem p16 : powOk 10 16 = true := by decide +kernel
theorem p30 : powOk 10 30 = true := by decide +kernel
theorem p231 : powOk 2 31 = true := by decide +kernel
theorem p263 : powOk 2 63 = true := by decide +kernel
theorem sack_run {T : List Fd} {g : Nat} (hg : T[g]? = some sackFd) (n : Nat) (m : Mem) (ns : List Int) (a : Nat) (ha : a < 1000) : ∃ x y : Int, callN T (n + 1) g [.d (.list (ns.map .int)), .d (.int a)] m = .ok (.loc m.length) (m ++ [.lst [.int x, .int y, .int 0]]) ∧ 0 ≤ x ∧ 0 ≤ y ∧ y < 2147483647 := by
  have k1 : mulOk 3 a = true := mOk (by omega) (by omega)
  have k4 : mulOk 524287 a = true := mOk (by omega) (by omega)
  have go : ∀ c : Int, ∃ x y : Int, retOf (denSs (callN T n) (.cons (.set 3 (.bin .Mod (.bi .abs (.cons (.var 2) .nil)) (.bin .Pow (.bin .Pow (.cst (.int 10)) (.cst (.int 60))) (.cst (.int 12))))) (.cons (.ret (.lst true (.cons (.bi .max2 (.cons (.cst (.int 0)) (.cons (.bin .Sub (.var 3) (.bin .Pow (.cst (.int 10)) (.cst (.int 16)))) .nil))) (.cons (.bin .Mod (.bin .Add (.bin .Add (.bin .Add (.bin .Mult (.var 3) (.cst (.int 6700417))) (.bin .Mult (.cst (.int 524287)) (.var 1))) (.bin .Mult (.cst (.int 2)) (.bi .int1 (.cons (.cmp .Lt (.var 2) (.cst (.int 0))) .nil)))) (.cst (.int 11))) (.cst (.int 2147483647))) (.cons (.cst (.int 0)) .nil))))) .nil))
      [some (.d (.list (ns.map .int))), some (.d (.int a)), some (.d (.int c)), none] m) = .ok (.loc m.length) (m ++ [.lst [.int x, .int y, .int 0]]) ∧ 0 ≤ x ∧ 0 ≤ y ∧ y < 2147483647 := by
    intro c
    have q60 : powOk 1000000000000000000000000000000000000000000000000000000000000 12 = true := by decide +kernel
    have hB0 : (0 : Int) < 1000000000000000000000000000000000000000000000000000000000000000000000000000000000000000000000000000000000000000000000000000000000000000000000000000000000000000000000000000000000000000000000000000000000000000000000000000000000000000000000000000000000000000000000000000000000000000000000000000000000000000000000000000000000000000000000000000000000000000000000000000000000000000000000000000000000000000000000000000000000000000000000000000000000000000000000000000000000000000000000000000000000000000000000000000000000000000000000000000000000000000000000000000000000000000000000000000000000000000000000000000000000000000000000000000000000000000000000000000000000000000000000000000000000000000000000000000000000000000000000000 := by decide +kernel
    have hB1 : (1000000000000000000000000000000000000000000000000000000000000000000000000000000000000000000000000000000000000000000000000000000000000000000000000000000000000000000000000000000000000000000000000000000000000000000000000000000000000000000000000000000000000000000000000000000000000000000000000000000000000000000000000000000000000000000000000000000000000000000000000000000000000000000000000000000000000000000000000000000000000000000000000000000000000000000000000000000000000000000000000000000000000000000000000000000000000000000000000000000000000000000000000000000000000000000000000000000000000000000000000000000000000000000000000000000000000000000000000000000000000000000000000000000000000000000000000000000000000000000000000 : Int) < ((2 ^ 2400 : Nat) : Int) := by decide +kernel
    have gb := fm (if c < 0 then -c else c) hB0
    have hB2 : ¬ (1000000000000000000000000000000000000000000000000000000000000000000000000000000000000000000000000000000000000000000000000000000000000000000000000000000000000000000000000000000000000000000000000000000000000000000000000000000000000000000000000000000000000000000000000000000000000000000000000000000000000000000000000000000000000000000000000000000000000000000000000000000000000000000000000000000000000000000000000000000000000000000000000000000000000000000000000000000000000000000000000000000000000000000000000000000000000000000000000000000000000000000000000000000000000000000000000000000000000000000000000000000000000000000000000000000000000000000000000000000000000000000000000000000000000000000000000000000000000000000000000 : Int) = 0 := by decide +kernel
    generalize hg : (if c < 0 then -c else c).fmod 1000000000000000000000000000000000000000000000000000000000000000000000000000000000000000000000000000000000000000000000000000000000000000000000000000000000000000000000000000000000000000000000000000000000000000000000000000000000000000000000000000000000000000000000000000000000000000000000000000000000000000000000000000000000000000000000000000000000000000000000000000000000000000000000000000000000000000000000000000000000000000000000000000000000000000000000000000000000000000000000000000000000000000000000000000000000000000000000000000000000000000000000000000000000000000000000000000000000000000000000000000000000000000000000000000000000000000000000000000000000000000000000000000000000000000000000000000000000000000000000000 = g at gb
    have k2 : mulOk g 6700417 = true := by
      refine mulOk_of 2400 100 (by omega) (by omega) ?_ (by decide) (by omega)
      have := Int.lt_trans gb.2 hB1
      generalize 2 ^ 2400 = Z at this
      omega
    have k3 : ∀ b : Bool, mulOk 2 (if b = true then 1 else 0) = true := fun b => mOk (by decide) (by cases b <;> decide)
    have y := fm (g * 6700417 + 524287 * (a : Int) + 2 * (if decide (c < 0) = true then 1 else 0) + 11) (M := 2147483647) (by omega)
    refine ⟨if g - 10000000000000000 > 0 then g - 10000000000000000 else 0, _, ?_, ?_, y.1, y.2⟩
    · simp only [List.map_cons, List.map_nil, List.length_cons, List.length_nil, List.replicate, List.cons_append, List.nil_append, List.getElem?_cons_zero, List.getElem?_cons_succ, List.set_cons_zero, List.set_cons_succ, Nat.reduceAdd, Nat.reduceSub, Nat.zero_add, denSs, denS, denE, denT, denTAnd, denTOr, denAnd, denOr, denEs, denO, denI, Res.bind, Res.bindN, rdd, rd, rds, dat, bol, mkL, dats, itsOf, setIx, isL, apIx, seqOf, setAll, bindT, bindTs, itsAll, p_int_n, p_int_b, p_int_i, p_int_s, p_int_l, p_int_t, p_int_d, p_bool_n, p_bool_b, p_bool_i, p_bool_s, p_bool_l, p_bool_t, p_bool_d, p_tuple_n, p_tuple_b, p_tuple_i, p_tuple_s, p_tuple_l, p_tuple_t, p_tuple_d, p_list_n, p_list_b, p_list_i, p_list_s, p_list_l, p_list_t, p_list_d, p_str_n, p_str_b, p_str_i, p_str_s, p_str_l, p_str_t, p_str_d, p_dict_n, p_dict_b, p_dict_i, p_dict_s, p_dict_l, p_dict_t, p_dict_d, Bool.true_or, Bool.or_true, Bool.false_or, Bool.or_false, Bool.true_and, Bool.and_true, Bool.false_and, Bool.and_false, Bool.not_true, Bool.not_false, o_len_l, o_len_t, o_abs, o_max, o_min, o_int, o_intb, o_tup_l, o_tup_t, o_list_l, o_list_t, o_all, o_any, o_divmod, o_max1, o_min1, o_sum1, o_str, o_strs, o_add, o_add_l, o_add_t, o_sub, o_mul, o_mul_l, o_mul_t, o_div, o_mod, o_pow, o_lt, o_le, o_gt, o_ge, o_eq, o_ne, o_nes, o_eqs, o_eqb, o_tn, o_tb, o_ti, o_tl, o_tt, o_ixl, o_ixt, o_sll, o_slt, if_true, if_false, decide_true, decide_false, retOf, Option.map_some, Bool.false_eq_true, p60, q60, p16, hg, hB2, k2, k3, k4, Int.reducePow, Int.reduceToNat, Nat.reducePow, Int.reduceEq, sz_le, Nat.reduceLeDiff]
    · split <;> omega
  by_cases hl : (a : Int) < ns.length
  · have hx : ∃ x, L2.atI (ns.map PyData.int) a = some x ∧ ∃ c, x = .int c := atI_all (by omega) (by simpa using hl) (fun x hx => by
      obtain ⟨c, _, rfl⟩ := List.mem_map.mp hx; exact ⟨c, rfl⟩)
    obtain ⟨_, hx, c, rfl⟩ := hx
    obtain ⟨x, y, e, h⟩ := go c
    refine ⟨x, y, call_keep (f := sackFd) hg rfl rfl ?_, h⟩
    rw [← e]
    simp only [sackFd, List.map_cons, List.map_nil, List.length_cons, List.length_nil, List.replicate, List.cons_append, List.nil_append, List.getElem?_cons_zero, List.getElem?_cons_succ, List.set_cons_zero, List.set_cons_succ, Nat.reduceAdd, Nat.reduceSub, Nat.zero_add, denSs, denS, denE, denT, denTAnd, denTOr, denAnd, denOr, denEs, denO, denI, Res.bind, Res.bindN, rdd, rd, rds, dat, bol, mkL, dats, itsOf, setIx, isL, apIx, seqOf, setAll, bindT, bindTs, itsAll, p_int_n, p_int_b, p_int_i, p_int_s, p_int_l, p_int_t, p_int_d, p_bool_n, p_bool_b, p_bool_i, p_bool_s, p_bool_l, p_bool_t, p_bool_d, p_tuple_n, p_tuple_b, p_tuple_i, p_tuple_s, p_tuple_l, p_tuple_t, p_tuple_d, p_list_n, p_list_b, p_list_i, p_list_s, p_list_l, p_list_t, p_list_d, p_str_n, p_str_b, p_str_i, p_str_s, p_str_l, p_str_t, p_str_d, p_dict_n, p_dict_b, p_dict_i, p_dict_s, p_dict_l, p_dict_t, p_dict_d, Bool.true_or, Bool.or_true, Bool.false_or, Bool.or_false, Bool.true_and, Bool.and_true, Bool.false_and, Bool.and_false, Bool.not_true, Bool.not_false, o_len_l, o_len_t, o_abs, o_max, o_min, o_int, o_intb, o_tup_l, o_tup_t, o_list_l, o_list_t, o_all, o_any, o_divmod, o_max1, o_min1, o_sum1, o_str, o_strs, o_add, o_add_l, o_add_t, o_sub, o_mul, o_mul_l, o_mul_t, o_div, o_mod, o_pow, o_lt, o_le, o_gt, o_ge, o_eq, o_ne, o_nes, o_eqs, o_eqb, o_tn, o_tb, o_ti, o_tl, o_tt, o_ixl, o_ixt, o_sll, o_slt, if_true, if_false, decide_true, decide_false, retOf, Option.map_some, Bool.false_eq_true, k1, List.length_map, hl, hx]
  · obtain ⟨x, y, e, h⟩ := go (3 * a + 1)
    refine ⟨x, y, call_keep (f := sackFd) hg rfl rfl ?_, h⟩
    rw [← e]
    simp only [sackFd, List.map_cons, List.map_nil, List.length_cons, List.length_nil, List.replicate, List.cons_append, List.nil_append, List.getElem?_cons_zero, List.getElem?_cons_succ, List.set_cons_zero, List.set_cons_succ, Nat.reduceAdd, Nat.reduceSub, Nat.zero_add, denSs, denS, denE, denT, denTAnd, denTOr, denAnd, denOr, denEs, denO, denI, Res.bind, Res.bindN, rdd, rd, rds, dat, bol, mkL, dats, itsOf, setIx, isL, apIx, seqOf, setAll, bindT, bindTs, itsAll, p_int_n, p_int_b, p_int_i, p_int_s, p_int_l, p_int_t, p_int_d, p_bool_n, p_bool_b, p_bool_i, p_bool_s, p_bool_l, p_bool_t, p_bool_d, p_tuple_n, p_tuple_b, p_tuple_i, p_tuple_s, p_tuple_l, p_tuple_t, p_tuple_d, p_list_n, p_list_b, p_list_i, p_list_s, p_list_l, p_list_t, p_list_d, p_str_n, p_str_b, p_str_i, p_str_s, p_str_l, p_str_t, p_str_d, p_dict_n, p_dict_b, p_dict_i, p_dict_s, p_dict_l, p_dict_t, p_dict_d, Bool.true_or, Bool.or_true, Bool.false_or, Bool.or_false, Bool.true_and, Bool.and_true, Bool.false_and, Bool.and_false, Bool.not_true, Bool.not_false, o_len_l, o_len_t, o_abs, o_max, o_min, o_int, o_intb, o_tup_l, o_tup_t, o_list_l, o_list_t, o_all, o_any, o_divmod, o_max1, o_min1, o_sum1, o_str, o_strs, o_add, o_add_l, o_add_t, o_sub, o_mul, o_mul_l, o_mul_t, o_div, o_mod, o_pow, o_lt, o_le, o_gt, o_ge, o_eq, o_ne, o_nes, o_eqs, o_eqb, o_tn, o_tb, o_ti, o_tl, o_tt, o_ixl, o_ixt, o_sll, o_slt, if_true, if_false, decide_true, decide_false, retOf, Option.map_some, Bool.false_eq_true, k1, List.length_map, hl]


theorem Sk.app {m : Mem} {l k : Nat} (h : Sk m l k) (o : Ob) : Sk (m ++ [o]) l k := by
  have hl := h.lt
  obtain ⟨a, b, c, h, h1⟩ := h
  exact ⟨a, b, c, by rw [List.getElem?_append_left hl]; exact h, h1⟩
theorem LD.left {m t : Mem} (h : LD (m ++ t)) : LD m := fun o ho => h o (List.mem_append_left _ ho)
/-- behind an open list -/
theorem Dn.in {m m' : Mem} {l k : Nat} {o : Ob} (hm : LD m) (hl : l < m.length) (s : Dn (m ++ [o]) l k m') : ∃ m2, m' = m2 ++ [o] ∧ Dn m l k m2 := by
  obtain ⟨s1, ⟨xs, rfl⟩, s2⟩ := s
  have e2 : (m ++ [o]).set l (.lst xs) = m.set l (.lst xs) ++ [o] := List.set_append_left l (.lst xs) hl
  rw [e2] at s2 ⊢
  refine ⟨_, rfl, hm.setL _ _, ⟨xs, rfl⟩, ?_⟩
  obtain ⟨a, b, c, h, h1⟩ := s2
  exact ⟨a, b, c, by rw [List.getElem?_append_left (by rw [List.length_set]; exact hl)] at h; exact h, h1⟩

end Ev

set_option maxHeartbeats 0
/-! Ev: words, bounds, sizes of what is shown; over any table. -/
namespace Ev
open PySem L2
set_option autoImplicit false
def wholeFd : Fd where
  name := "is_whole"
  ps := 1
  N := ["thing"]
  body := .cons (.ret (.and_ (.cons (.isi (.var 0) "int") (.cons (.not_ (.isi (.var 0) "bool")) .nil)))) .nil
  keep := false
def betweenFd (g : Nat) : Fd where
  name := "is_between"
  ps := 3
  N := ["thing", "low", "high"]
  body := .cons (.ret (.and_ (.cons (.call g "is_whole" (.cons (.var 0) .nil)) (.cons (.cmp2 .LtE .LtE (.var 1) (.var 0) (.var 2)) .nil)))) .nil
  keep := false
def needFd (g : Nat) : Fd where
  name := "need_between"
  ps := 3
  N := ["thing", "low", "high"]
  body := .cons (.iff (.not_ (.v (.call g "is_between" (.cons (.var 0) (.cons (.var 1) (.cons (.var 2) .nil)))))) (.cons (.raise_ "NoNumber" "a number out of its bounds") .nil) (.nil)) .nil
  keep := false
def wordFd (g : Nat) : Fd where
  name := "is_word"
  ps := 1
  N := ["thing"]
  body := .cons (.ret (.call g "is_between" (.cons (.var 0) (.cons (.bin .Sub (.cst (.int 0)) (.gk "GREATEST" (.int 1000000000))) (.cons (.gk "GREATEST" (.int 1000000000)) .nil))))) .nil
  keep := false
def isWhole : PyData → Bool
  | .int _ => true
  | _ => false
def isBetween (x : PyData) (lo hi : Int) : Bool := match x with
  | .int i => decide (lo ≤ i) && decide (i ≤ hi)
  | _ => false
def Wd (i : Int) : Prop := -1000000000 ≤ i ∧ i ≤ 1000000000
instance (i : Int) : Decidable (Wd i) := inferInstanceAs (Decidable (_ ∧ _))
def falls (w : Str) : Exn := ⟨"Falls", [("word", .str w)]⟩
theorem wd_b {z : Int} : (decide (-1000000000 ≤ z) && decide (z ≤ 1000000000)) = decide (Wd z) := by
  rw [Bool.eq_iff_iff]
  simp only [Bool.and_eq_true, decide_eq_true_eq]
  rfl
theorem call_erL {T : List Fd} {n g : Nat} {f : Fd} {args : List Vl} {m m' : Mem} {e : Exn} (hf : T[g]? = some f) (hl : args.length = f.ps)
    (hb : denSs (callN T n) f.body (args.map some ++ List.replicate (f.N.length - args.length) none) m = .err e m') : callN T (n + 1) g args m = .err e m' := by
  refine call_err hf hl ?_
  rw [hb]
  rfl
section
variable {T : List Fd} {g0 g1 g2 g3 : Nat}
theorem whole_run (h0 : T[g0]? = some wholeFd) (n : Nat) (x : PyData) (m : Mem) (hm : LD m) : callN T (n + 1) g0 [.d x] m = .ok (.d (.bool (isWhole x))) m := by
  refine call_data (f := wholeFd) hm h0 rfl rfl ?_
  simp only [wholeFd, List.map_cons, List.map_nil, List.length_cons, List.length_nil, List.replicate, List.cons_append, List.nil_append, List.getElem?_cons_zero, List.getElem?_cons_succ, List.set_cons_zero, List.set_cons_succ, Nat.reduceAdd, Nat.reduceSub, Nat.zero_add, denSs, denS, denE, denT, denTAnd, denTOr, denAnd, denOr, denEs, denO, denI, Res.bind, Res.bindN, rdd, rd, rds, dat, bol, mkL, dats, itsOf, setIx, isL, apIx, seqOf, setAll, bindT, bindTs, itsAll, retOf]
  cases x <;> simp [denSs, denS, denE, denT, denTAnd, denTOr, denAnd, denOr, denEs, denO, denI, Res.bind, Res.bindN, rdd, rd, rds, dat, bol, mkL, dats, itsOf, setIx, isL, apIx, seqOf, setAll, bindT, bindTs, itsAll, p_int_n, p_int_b, p_int_i, p_int_s, p_int_l, p_int_t, p_int_d, p_bool_n, p_bool_b, p_bool_i, p_bool_s, p_bool_l, p_bool_t, p_bool_d, p_tuple_n, p_tuple_b, p_tuple_i, p_tuple_s, p_tuple_l, p_tuple_t, p_tuple_d, p_list_n, p_list_b, p_list_i, p_list_s, p_list_l, p_list_t, p_list_d, p_str_n, p_str_b, p_str_i, p_str_s, p_str_l, p_str_t, p_str_d, p_dict_n, p_dict_b, p_dict_i, p_dict_s, p_dict_l, p_dict_t, p_dict_d, Bool.true_or, Bool.or_true, Bool.false_or, Bool.or_false, Bool.true_and, Bool.and_true, Bool.false_and, Bool.and_false, Bool.not_true, Bool.not_false, o_len_l, o_len_t, o_abs, o_max, o_min, o_int, o_intb, o_tup_l, o_tup_t, o_list_l, o_list_t, o_all, o_any, o_divmod, o_max1, o_min1, o_sum1, o_str, o_strs, o_add, o_add_l, o_add_t, o_sub, o_mul, o_mul_l, o_mul_t, o_div, o_mod, o_pow, o_lt, o_le, o_gt, o_ge, o_eq, o_ne, o_nes, o_eqs, o_eqb, o_tn, o_tb, o_ti, o_tl, o_tt, o_ixl, o_ixt, o_sll, o_slt, if_true, if_false, decide_true, decide_false, retOf, Option.map_some, Bool.false_eq_true, isWhole, retOf]
theorem between_run (h0 : T[g0]? = some wholeFd) (h1 : T[g1]? = some (betweenFd g0)) (n : Nat) (x : PyData) (lo hi : Int) (m : Mem) (hm : LD m) : callN T (n + 2) g1 [.d x, .d (.int lo), .d (.int hi)] m = .ok (.d (.bool (isBetween x lo hi))) m := by
  refine call_data (f := betweenFd g0) hm h1 rfl rfl ?_
  simp only [betweenFd, List.map_cons, List.map_nil, List.length_cons, List.length_nil, List.replicate, List.cons_append, List.nil_append, List.getElem?_cons_zero, List.getElem?_cons_succ, List.set_cons_zero, List.set_cons_succ, Nat.reduceAdd, Nat.reduceSub, Nat.zero_add, denSs, denS, denE, denT, denTAnd, denTOr, denAnd, denOr, denEs, denO, denI, Res.bind, Res.bindN, rdd, rd, rds, dat, bol, mkL, dats, itsOf, setIx, isL, apIx, seqOf, setAll, bindT, bindTs, itsAll, whole_run h0 n _ _ hm]
  cases x with
  | int i => by_cases h : lo ≤ i <;> simp [isWhole, isBetween, cmpP, h, retOf]
  | _ => simp [isWhole, isBetween, retOf]
theorem need_run (h0 : T[g0]? = some wholeFd) (h1 : T[g1]? = some (betweenFd g0)) (h2 : T[g2]? = some (needFd g1)) (n : Nat) (x : PyData) (lo hi : Int) (m : Mem) (hm : LD m) :
    callN T (n + 3) g2 [.d x, .d (.int lo), .d (.int hi)] m = match isBetween x lo hi with
      | true => .ok (.d .none) m
      | false => .err ⟨"NoNumber", []⟩ m := by
  have h := between_run h0 h1 n x lo hi m hm
  cases q : isBetween x lo hi with
  | true => rw [q] at h; exact call_data (f := needFd g1) hm h2 rfl rfl (by simp only [needFd, List.map_cons, List.map_nil, List.length_cons, List.length_nil, List.replicate, List.cons_append, List.nil_append, List.getElem?_cons_zero, List.getElem?_cons_succ, List.set_cons_zero, List.set_cons_succ, Nat.reduceAdd, Nat.reduceSub, Nat.zero_add, denSs, denS, denE, denT, denTAnd, denTOr, denAnd, denOr, denEs, denO, denI, Res.bind, Res.bindN, rdd, rd, rds, dat, bol, mkL, dats, itsOf, setIx, isL, apIx, seqOf, setAll, bindT, bindTs, itsAll, p_int_n, p_int_b, p_int_i, p_int_s, p_int_l, p_int_t, p_int_d, p_bool_n, p_bool_b, p_bool_i, p_bool_s, p_bool_l, p_bool_t, p_bool_d, p_tuple_n, p_tuple_b, p_tuple_i, p_tuple_s, p_tuple_l, p_tuple_t, p_tuple_d, p_list_n, p_list_b, p_list_i, p_list_s, p_list_l, p_list_t, p_list_d, p_str_n, p_str_b, p_str_i, p_str_s, p_str_l, p_str_t, p_str_d, p_dict_n, p_dict_b, p_dict_i, p_dict_s, p_dict_l, p_dict_t, p_dict_d, Bool.true_or, Bool.or_true, Bool.false_or, Bool.or_false, Bool.true_and, Bool.and_true, Bool.false_and, Bool.and_false, Bool.not_true, Bool.not_false, o_len_l, o_len_t, o_abs, o_max, o_min, o_int, o_intb, o_tup_l, o_tup_t, o_list_l, o_list_t, o_all, o_any, o_divmod, o_max1, o_min1, o_sum1, o_str, o_strs, o_add, o_add_l, o_add_t, o_sub, o_mul, o_mul_l, o_mul_t, o_div, o_mod, o_pow, o_lt, o_le, o_gt, o_ge, o_eq, o_ne, o_nes, o_eqs, o_eqb, o_tn, o_tb, o_ti, o_tl, o_tt, o_ixl, o_ixt, o_sll, o_slt, if_true, if_false, decide_true, decide_false, retOf, Option.map_some, Bool.false_eq_true, truP, h])
  | false => rw [q] at h; exact call_err (f := needFd g1) h2 rfl (by simp only [needFd, List.map_cons, List.map_nil, List.length_cons, List.length_nil, List.replicate, List.cons_append, List.nil_append, List.getElem?_cons_zero, List.getElem?_cons_succ, List.set_cons_zero, List.set_cons_succ, Nat.reduceAdd, Nat.reduceSub, Nat.zero_add, denSs, denS, denE, denT, denTAnd, denTOr, denAnd, denOr, denEs, denO, denI, Res.bind, Res.bindN, rdd, rd, rds, dat, bol, mkL, dats, itsOf, setIx, isL, apIx, seqOf, setAll, bindT, bindTs, itsAll, p_int_n, p_int_b, p_int_i, p_int_s, p_int_l, p_int_t, p_int_d, p_bool_n, p_bool_b, p_bool_i, p_bool_s, p_bool_l, p_bool_t, p_bool_d, p_tuple_n, p_tuple_b, p_tuple_i, p_tuple_s, p_tuple_l, p_tuple_t, p_tuple_d, p_list_n, p_list_b, p_list_i, p_list_s, p_list_l, p_list_t, p_list_d, p_str_n, p_str_b, p_str_i, p_str_s, p_str_l, p_str_t, p_str_d, p_dict_n, p_dict_b, p_dict_i, p_dict_s, p_dict_l, p_dict_t, p_dict_d, Bool.true_or, Bool.or_true, Bool.false_or, Bool.or_false, Bool.true_and, Bool.and_true, Bool.false_and, Bool.and_false, Bool.not_true, Bool.not_false, o_len_l, o_len_t, o_abs, o_max, o_min, o_int, o_intb, o_tup_l, o_tup_t, o_list_l, o_list_t, o_all, o_any, o_divmod, o_max1, o_min1, o_sum1, o_str, o_strs, o_add, o_add_l, o_add_t, o_sub, o_mul, o_mul_l, o_mul_t, o_div, o_mod, o_pow, o_lt, o_le, o_gt, o_ge, o_eq, o_ne, o_nes, o_eqs, o_eqb, o_tn, o_tb, o_ti, o_tl, o_tt, o_ixl, o_ixt, o_sll, o_slt, if_true, if_false, decide_true, decide_false, retOf, Option.map_some, Bool.false_eq_true, truP, h])
theorem word_run (h0 : T[g0]? = some wholeFd) (h1 : T[g1]? = some (betweenFd g0)) (h3 : T[g3]? = some (wordFd g1)) (n : Nat) (i : Int) (m : Mem) (hm : LD m) : callN T (n + 3) g3 [.d (.int i)] m = .ok (.d (.bool (decide (Wd i)))) m := by
  refine call_data (f := wordFd g1) hm h3 rfl rfl ?_
  have h := between_run h0 h1 n (.int i) (0 - 1000000000) 1000000000 m hm
  simp only [wordFd, List.map_cons, List.map_nil, List.length_cons, List.length_nil, List.replicate, List.cons_append, List.nil_append, List.getElem?_cons_zero, List.getElem?_cons_succ, List.set_cons_zero, List.set_cons_succ, Nat.reduceAdd, Nat.reduceSub, Nat.zero_add, denSs, denS, denE, denT, denTAnd, denTOr, denAnd, denOr, denEs, denO, denI, Res.bind, Res.bindN, rdd, rd, rds, dat, bol, mkL, dats, itsOf, setIx, isL, apIx, seqOf, setAll, bindT, bindTs, itsAll, p_int_n, p_int_b, p_int_i, p_int_s, p_int_l, p_int_t, p_int_d, p_bool_n, p_bool_b, p_bool_i, p_bool_s, p_bool_l, p_bool_t, p_bool_d, p_tuple_n, p_tuple_b, p_tuple_i, p_tuple_s, p_tuple_l, p_tuple_t, p_tuple_d, p_list_n, p_list_b, p_list_i, p_list_s, p_list_l, p_list_t, p_list_d, p_str_n, p_str_b, p_str_i, p_str_s, p_str_l, p_str_t, p_str_d, p_dict_n, p_dict_b, p_dict_i, p_dict_s, p_dict_l, p_dict_t, p_dict_d, Bool.true_or, Bool.or_true, Bool.false_or, Bool.or_false, Bool.true_and, Bool.and_true, Bool.false_and, Bool.and_false, Bool.not_true, Bool.not_false, o_len_l, o_len_t, o_abs, o_max, o_min, o_int, o_intb, o_tup_l, o_tup_t, o_list_l, o_list_t, o_all, o_any, o_divmod, o_max1, o_min1, o_sum1, o_str, o_strs, o_add, o_add_l, o_add_t, o_sub, o_mul, o_mul_l, o_mul_t, o_div, o_mod, o_pow, o_lt, o_le, o_gt, o_ge, o_eq, o_ne, o_nes, o_eqs, o_eqb, o_tn, o_tb, o_ti, o_tl, o_tt, o_ixl, o_ixt, o_sll, o_slt, if_true, if_false, decide_true, decide_false, retOf, Option.map_some, Bool.false_eq_true, h]
  rw [← wd_b]
  rfl
/-- raise of a class with a field asks for two frames -/
theorem probe_run (hT : T.length ≤ 900) (n : Nat) (m : Mem) : callN T (n + 3) 1999 [] m = .ok (.d .none) m := by
  have e1 : T[1999]? = none := List.getElem?_eq_none (by omega)
  have e2 : T[999]? = none := List.getElem?_eq_none (by omega)
  rw [callN]
  simp only [e1]
  rw [if_neg (by omega), if_pos (by omega)]
  show callN T (n + 1) 999 [] m = _
  unfold callN
  simp only [e2, if_true]
end
theorem one_lt : (0 < sizeLine) = True := by unfold sizeLine; exact eq_true (by omega)
theorem lt_sz {n : Nat} (h : n < 1000) : (n < sizeLine) = True := by unfold sizeLine; exact eq_true (by omega)
theorem getD_wd {r : List Int} (h : ∀ i ∈ r, Wd i) {k : Nat} (hk : k < r.length) : Wd (r.getD k 0) := by
  rw [List.getD_eq_getElem?_getD, List.getElem?_eq_getElem hk]
  exact h _ (List.getElem_mem hk)
theorem atI_map {r : List Int} {k : Nat} (h : k < r.length) : L2.atI (r.map PyData.int) (k : Int) = some (.int (r.getD k 0)) := by
  rw [atI_ok (by simpa using h), List.getElem_map, List.getD_eq_getElem?_getD, List.getElem?_eq_getElem h]
  rfl
structure Bd (c d : Nat) (x : PyData) : Prop where
  sh : x.showable = true
  co : cost x ≤ c
  dp : x.depth ≤ d
theorem bd_int {i : Int} (h : Wd i) : Bd 600 0 (.int i) := by
  obtain ⟨h1, h2⟩ := h
  have : i.natAbs.log2 < 40 := log2_lt_of (by omega) (by omega)
  refine ⟨?_, Nat.le_refl _, Nat.le_refl _⟩
  simp only [PyData.showable, decide_eq_true_eq]; omega
theorem bd_rec {r : List Int} (hr : ∀ i ∈ r, Wd i) (hl : r.length ≤ 9) : Bd 6000 1 (.tuple (r.map .int)) := by
  refine ⟨?_, ?_, ?_⟩
  · simp only [PyData.showable, showableAll_iff, List.all_map, List.all_eq_true, Function.comp]
    exact fun i hi => (bd_int (hr i hi)).sh
  · have := costA_le 600 (r.map PyData.int) (fun x hx => by
      obtain ⟨i, hi, rfl⟩ := List.mem_map.mp hx
      exact (bd_int (hr i hi)).co)
    rw [List.length_map] at this
    simp only [cost]
    omega
  · have := depthAll_le 0 (r.map PyData.int) (fun x hx => by
      obtain ⟨i, hi, rfl⟩ := List.mem_map.mp hx
      exact (bd_int (hr i hi)).dp)
    simp only [PyData.depth]
    omega
theorem bd_rep {c d : Nat} {x : PyData} (h : Bd c d x) (hc : c ≤ 1000000) (hd : d ≤ 60) : biP .repr1 [x] = some (.str x.shown) := by
  refine repr_ok ?_
  have hz : sizeLine = 16777216 := rfl
  simp only [reprOk, h.sh, Bool.true_and, Bool.and_eq_true, decide_eq_true_eq]
  have := h.co
  have := h.dp
  omega
theorem bd_pair {c d c' d' : Nat} {x y : PyData} (h : Bd c d x) (h' : Bd c' d' y) : Bd (c + c' + 8) (max d d' + 1) (.tuple [x, y]) := by
  obtain ⟨a1, a2, a3⟩ := h
  obtain ⟨b1, b2, b3⟩ := h'
  refine ⟨by simp [PyData.showable, PyData.showableAll, a1, b1], by simp [cost, costA]; omega, by simp [PyData.depth, PyData.depthAll]; omega⟩
theorem bd_two {c d : Nat} {x : PyData} (h : Bd c d x) : Bd (c + c + 8) (d + 1) (.list [x, x]) := by
  obtain ⟨a1, a2, a3⟩ := h
  refine ⟨by simp [PyData.showable, PyData.showableAll, a1], by simp [cost, costA]; omega, by simp [PyData.depth, PyData.depthAll]; omega⟩
theorem ints_of : ∀ {xs : List PyData}, (∀ x ∈ xs, ∃ i, x = .int i ∧ Wd i) → ∃ r : List Int, xs = r.map .int ∧ ∀ i ∈ r, Wd i
  | [], _ => ⟨[], rfl, by simp⟩
  | x :: xs, h => by
    obtain ⟨i, rfl, hi⟩ := h x (List.mem_cons_self ..)
    obtain ⟨r, rfl, hr⟩ := ints_of (fun y hy => h y (List.mem_cons_of_mem _ hy))
    exact ⟨i :: r, rfl, fun j hj => by rcases List.mem_cons.mp hj with rfl | hj; exact hi; exact hr j hj⟩
theorem seq_err {call : CallT} {s : CS} {r : CSs} {env : Sl} {m m1 : Mem} {x : Exn} (h : denS call s env m = .err x m1) : denSs call (.cons s r) env m = .err x m1 := by
  simp only [denSs, h, Res.bind]
theorem for_err {t : Tg} {b : Sl → Mem → Res (Fl × Sl)} {x : PyData} {xs : List PyData} {env env0 env1 : Sl} {m m1 m2 : Mem} {e : Exn} (hb : bindT t x env = some env0) (h : b env0 m = .ok (.nx, env1) m1) (h2 : forLoop [] t b xs env1 m1 = .err e m2) : forLoop [] t b (x :: xs) env m = .err e m2 := for_consT hb h h2
/-- a call that gives a list made within -/
theorem call_locL {T : List Fd} {n g : Nat} {f : Fd} {args : List Vl} {m : Mem} {xs : List PyData} {e' : Sl} (hm : LD m) (hf : T[g]? = some f) (hl : args.length = f.ps) (hk : f.keep = false)
    (hb : denSs (callN T n) f.body (args.map some ++ List.replicate (f.N.length - args.length) none) m = .ok (.ret (.loc m.length), e') (m ++ [.lst xs])) : callN T (n + 1) g args m = .ok (.d (.list xs)) m := by
  unfold callN
  simp only [hf, if_pos hl, hb, Res.bind, flV, hk]
  exact close_lst hm xs
theorem call_more {T : List Fd} {n g : Nat} {f : Fd} {args : List Vl} {m t : Mem} {d : PyData} (hm : LD m) (hf : T[g]? = some f) (hl : args.length = f.ps) (hk : f.keep = false)
    (hb : retOf (denSs (callN T n) f.body (args.map some ++ List.replicate (f.N.length - args.length) none) m) = .ok (.d d) (m ++ t)) : callN T (n + 1) g args m = .ok (.d d) m := by
  unfold callN
  simp only [hf, if_pos hl]
  refine Eq.trans (retOf_bind (f := fun v m1 => closeC f.keep m.length v m1) hb) ?_
  simp only [hk]; exact close_more hm d t
theorem cut_take (xs : List PyData) (k : Nat) : cutL xs none (some (k : Int)) = xs.take k := by
  unfold cutL
  rw [HT.sIx_none, HT.sIx_nat]
  simp only [List.drop_zero, Nat.sub_zero]
  by_cases h : k ≤ xs.length
  · rw [Nat.min_eq_left h]
  · rw [Nat.min_eq_right (by omega), List.take_of_length_le (Nat.le_refl _), List.take_of_length_le (by omega)]
theorem cut_drop (xs : List PyData) (k : Nat) : cutL xs (some (k : Int)) none = xs.drop k := by
  unfold cutL
  rw [HT.sIx_none, HT.sIx_nat]
  by_cases h : k ≤ xs.length
  · rw [Nat.min_eq_left h, List.take_of_length_le (by rw [List.length_drop]; omega)]
  · rw [Nat.min_eq_right (by omega), List.drop_eq_nil_of_le (Nat.le_refl _), List.drop_eq_nil_of_le (by omega)]
    exact List.take_nil
theorem ints_all (r : List Int) : intsOf (r.map PyData.int) = some r := by
  induction r with
  | nil => rfl
  | cons i r ih => simp only [List.map_cons, intsOf, ih, Option.map_some]
/-! ### comprehensions over what is built from a list -/
theorem lc_mapA {α : Type} {call : CallT} {t : Tg} {x : List Str} {s : CI} {e : CE} {env : Sl} {m : Mem} (xs : List α) (P : α → PyData) (B : α → Sl) (F : α → PyData) (hm : LD m) (h : denI call s env m = .ok ⟨xs.map P, []⟩ m) (hl : xs.length ≤ 1000) (hb : ∀ a ∈ xs, bindT t (P a) env = some (B a))
    (he : ∀ a ∈ xs, ∀ acc, denE call e (B a) (m ++ [.lst acc]) = .ok (.d (F a)) (m ++ [.lst acc])) : denE call (.lc false t x s .nil e) env m = .ok (.d (.list (xs.map F))) m := by
  refine lc_step h ?_ rfl hm
  have hc : ∀ env m, denTAnd call .nil env m = .ok true m := fun _ _ => by simp only [denTAnd]
  have go : ∀ (ys : List α) (acc : List PyData), (∀ a ∈ ys, a ∈ xs) → acc.length + ys.length ≤ 1000 → lcLoop [] t m.length (denTAnd call .nil) (denE call e) (ys.map P) env (m ++ [.lst acc]) = .ok () (m ++ [.lst (acc ++ ys.map F)]) := by
    intro ys
    induction ys with
    | nil => intro acc _ _; simp [lcLoop, same]
    | cons y ys ih =>
      intro acc hy hz
      simp only [List.length_cons] at hz
      have hy0 := hy y (List.mem_cons_self ..)
      rw [List.map_cons]
      unfold lcLoop
      simp only [same, if_true, hb y hy0, hc, Res.bind, he y hy0, get_last, lt_sz (show acc.length < 1000 by omega), set_last]
      rw [ih (acc ++ [F y]) (fun a ha => hy a (List.mem_cons_of_mem _ ha)) (by simp only [List.length_append, List.length_cons, List.length_nil]; omega)]
      simp
  have k := go xs [] (fun _ h => h) (by simpa using hl)
  rw [List.nil_append] at k
  exact k
/-- with a test -/
theorem lc_filtA {α : Type} {call : CallT} {t : Tg} {x : List Str} {s : CI} {c : CTs} {e : CE} {env : Sl} {m : Mem} (xs : List α) (P : α → PyData) (B : α → Sl) (p : α → Bool) (F : α → PyData) (hm : LD m) (h : denI call s env m = .ok ⟨xs.map P, []⟩ m) (hl : xs.length ≤ 1000) (hb : ∀ a ∈ xs, bindT t (P a) env = some (B a))
    (hc : ∀ a ∈ xs, ∀ acc, denTAnd call c (B a) (m ++ [.lst acc]) = .ok (p a) (m ++ [.lst acc]))
    (he : ∀ a ∈ xs, p a = true → ∀ acc, denE call e (B a) (m ++ [.lst acc]) = .ok (.d (F a)) (m ++ [.lst acc])) : denE call (.lc false t x s c e) env m = .ok (.d (.list ((xs.filter p).map F))) m := by
  refine lc_step h ?_ rfl hm
  have go : ∀ (ys : List α) (acc : List PyData), (∀ a ∈ ys, a ∈ xs) → acc.length + ys.length ≤ 1000 → lcLoop [] t m.length (denTAnd call c) (denE call e) (ys.map P) env (m ++ [.lst acc]) = .ok () (m ++ [.lst (acc ++ (ys.filter p).map F)]) := by
    intro ys
    induction ys with
    | nil => intro acc _ _; simp [lcLoop, same]
    | cons y ys ih =>
      intro acc hy hz
      simp only [List.length_cons] at hz
      have hy0 := hy y (List.mem_cons_self ..)
      rw [List.map_cons]
      unfold lcLoop
      simp only [same, if_true, hb y hy0, Res.bind, hc y hy0]
      cases q : p y with
      | true =>
        simp only [he y hy0 q, get_last, lt_sz (show acc.length < 1000 by omega), if_true, set_last]
        rw [ih (acc ++ [F y]) (fun a ha => hy a (List.mem_cons_of_mem _ ha)) (by simp only [List.length_append, List.length_cons, List.length_nil]; omega)]
        simp [q]
      | false =>
        simp only
        rw [ih acc (fun a ha => hy a (List.mem_cons_of_mem _ ha)) (by omega)]
        simp [q]
  have k := go xs [] (fun _ h => h) (by simpa using hl)
  rw [List.nil_append] at k
  exact k
end Ev

set_option maxHeartbeats 4000000
/-! Ev: steps, draws, comprehensions of draws: what all laws need. -/
namespace Ev
open PySem PySem.Spec PyProof.Rows L2
theorem iff_t {call : CallT} {c : CT} {t f : CSs} {env : Sl} {m m1 : Mem} {R : Res (Fl × Sl)} (h : denT call c env m = .ok true m1) (h2 : denSs call t env m1 = R) : denS call (.iff c t f) env m = R := by
  rw [denS, h]; exact h2
theorem iff_f {call : CallT} {c : CT} {t f : CSs} {env : Sl} {m m1 : Mem} {R : Res (Fl × Sl)} (h : denT call c env m = .ok false m1) (h2 : denSs call f env m1 = R) : denS call (.iff c t f) env m = R := by
  rw [denS, h]; exact h2
theorem iff_n {call : CallT} {c : CT} {t : CSs} {env : Sl} {m m1 : Mem} (h : denT call c env m = .ok false m1) : denS call (.iff c t .nil) env m = .ok (.nx, env) m1 := iff_f h (by rw [denSs])
theorem one_step {call : CallT} {s : CS} {env env1 : Sl} {m m1 : Mem} (h : denS call s env m = .ok (.nx, env1) m1) : denSs call (.cons s .nil) env m = .ok (.nx, env1) m1 := seq_step h (by rw [denSs])
theorem seq_ret {call : CallT} {s : CS} {r : CSs} {env env1 : Sl} {m m1 : Mem} {v : Vl} (h : denS call s env m = .ok (.ret v, env1) m1) : denSs call (.cons s r) env m = .ok (.ret v, env1) m1 := by
  simp only [denSs, h, Res.bind]
theorem app_last {call : CallT} {o e : CE} {env : Sl} {m : Mem} {acc : List PyData} {v : PyData} (ho : denE call o env (m ++ [.lst acc]) = .ok (.loc m.length) (m ++ [.lst acc])) (he : denE call e env (m ++ [.lst acc]) = .ok (.d v) (m ++ [.lst acc])) (hz : acc.length < 1000) :
    denS call (.app o e) env (m ++ [.lst acc]) = .ok (.nx, env) (m ++ [.lst (acc ++ [v])]) := by
  simp only [denS, ho, Res.bind, isL, get_last, he, apIx, lt_sz hz, if_true, set_last]
theorem atI_last {xs : List PyData} {x : PyData} (h : xs.getLast? = some x) : L2.atI xs (-1) = some x := by
  have hp : 0 < xs.length := by cases xs with | nil => cases h | cons _ _ => simp
  unfold L2.atI L2.ixN
  rw [if_neg (by omega), if_pos (by omega)]
  show xs[((-1 : Int) + (xs.length : Int)).toNat]? = _
  rw [show ((-1 : Int) + (xs.length : Int)).toNat = xs.length - 1 by omega, ← List.getLast?_eq_getElem?]
  exact h
theorem rngL_n (k : Nat) : rngL 0 (k : Int) = (List.range k).map fun (i : Nat) => PyData.int (0 + (i : Int)) := by
  unfold rngL
  rw [Int.sub_zero, Int.toNat_natCast]
theorem rngOk_n {k : Nat} (h : k ≤ 1000000) : rngOk (k : Int) = true := by
  unfold rngOk
  rw [Bool.and_eq_true, decide_eq_true_eq, decide_eq_true_eq]
  omega
/-- the number as a letter: the kernel must not count -/
theorem rng1_run {call : CallT} {i : Int} {c : CE} {env : Sl} {m m1 : Mem} (e : denE call c env m = .ok (.d (.int i)) m1) (g : rngOk i = true) : denI call (.rng1 c) env m = .ok ⟨rngL 0 i, []⟩ m1 := by
  rw [denI, e]
  simp only [Res.bind, g, if_true]
theorem rng2_run {call : CallT} {i j : Int} {a b : CE} {env : Sl} {m m1 m2 : Mem} (e : denE call a env m = .ok (.d (.int i)) m1) (e2 : denE call b env m1 = .ok (.d (.int j)) m2) (g : rngOk i = true) (g2 : rngOk j = true) : denI call (.rng2 a b) env m = .ok ⟨rngL i j, []⟩ m2 := by
  rw [denI, e]
  simp only [Res.bind, e2, g, g2, Bool.and_self, if_true]
theorem bd_tup {c d : Nat} {xs : List PyData} (h : ∀ x ∈ xs, Bd c d x) : Bd ((c + 2) * xs.length + 4) (d + 1) (.tuple xs) := by
  refine ⟨?_, ?_, ?_⟩
  · simp only [PyData.showable, showableAll_iff, List.all_eq_true]
    exact fun x hx => (h x hx).sh
  · have := costA_le c xs (fun x hx => (h x hx).co)
    simp only [cost]
    have e : xs.length * (c + 2) = (c + 2) * xs.length := Nat.mul_comm _ _
    omega
  · have := depthAll_le d xs (fun x hx => (h x hx).dp)
    simp only [PyData.depth]
    omega
theorem bd_mono {c d c' d' : Nat} {x : PyData} (h : Bd c d x) (hc : c ≤ c') (hd : d ≤ d') : Bd c' d' x := ⟨h.sh, Nat.le_trans h.co hc, Nat.le_trans h.dp hd⟩
theorem bd_big {i : Int} (h : i.natAbs < 2 ^ 100) : Bd 600 0 (.int i) := by
  have : i.natAbs.log2 < 101 := log2_lt_of (by omega) (by omega)
  refine ⟨?_, Nat.le_refl _, Nat.le_refl _⟩
  simp only [PyData.showable, decide_eq_true_eq]; omega
theorem draw_in {T : List Fd} {d : Nat} (hD : T[d]? = some drawFd) (n : Nat) (m : Mem) (l k : Nat) (N : Int) (a : List PyData) (hm : LD m) (hs : Sk m l k) (hk : k ≤ 900000000) (h0 : 0 < N) (h1 : N < 2 ^ 40) :
    ∃ r m', callN T (n + 1) d [.loc l, .d (.int N)] (m ++ [.lst a]) = .ok (.d (.int r)) (m' ++ [.lst a]) ∧ 0 ≤ r ∧ r < N ∧ Dn m l (k + 1) m' := by
  obtain ⟨r, m1, e, r0, r1, s⟩ := draw_run hD n (m ++ [.lst a]) l k N (hm.appL a) (hs.app _) (by omega) h0 h1
  obtain ⟨m2, rfl, s2⟩ := s.in hm hs.lt
  exact ⟨r, m2, e, r0, r1, s2⟩
theorem for_allN {v : Nat} {b : Sl → Mem → Res (Fl × Sl)} (J : Nat → Sl → Mem → Prop) (N : Nat) : ∀ (items : List PyData) (j : Nat) (env : Sl) (m : Mem), J j env m → j + items.length ≤ N → (∀ j x env m, j < N → x ∈ items → J j env m → ∃ env' m', b (env.set v (some (.d x))) m = .ok (.nx, env') m' ∧ J (j + 1) env' m') →
    ∃ env' m', forLoop [] (.nm v) b items env m = .ok (.nx, env') m' ∧ J (j + items.length) env' m'
  | [], j, env, m, hj, _, _ => ⟨env, m, for_nil, hj⟩
  | x :: xs, j, env, m, hj, hN, h => by
    simp only [List.length_cons] at hN
    obtain ⟨e1, m1, r1, j1⟩ := h j x env m (by omega) (List.mem_cons_self ..) hj
    obtain ⟨e2, m2, r2, j2⟩ := for_allN J N xs (j + 1) e1 m1 j1 (by omega) (fun j y env m hl hy => h j y env m hl (List.mem_cons_of_mem _ hy))
    refine ⟨e2, m2, for_cons r1 r2, ?_⟩
    rw [List.length_cons, show j + (xs.length + 1) = j + 1 + xs.length by omega]
    exact j2
theorem dn_refl {m : Mem} {l k : Nat} (hm : LD m) (h : Sk m l k) : Dn m l k m := by
  refine ⟨hm, ?_, h⟩
  obtain ⟨a, b, c, e, _⟩ := h
  exact ⟨[.int a, .int b, .int c], by
    apply List.ext_getElem?
    intro i
    by_cases hi : l = i
    · subst hi
      rw [List.getElem?_set_self (List.getElem?_eq_some_iff.mp e).1, e]
    · rw [List.getElem?_set_ne hi]⟩
theorem call_moreM {T : List Fd} {n g : Nat} {f : Fd} {args : List Vl} {m m2 t : Mem} {d : PyData} (hm : LD m2) (hml : m2.length = m.length) (hf : T[g]? = some f) (hl : args.length = f.ps) (hk : f.keep = false)
    (hb : retOf (denSs (callN T n) f.body (args.map some ++ List.replicate (f.N.length - args.length) none) m) = .ok (.d d) (m2 ++ t)) : callN T (n + 1) g args m = .ok (.d d) m2 := by
  unfold callN
  simp only [hf, if_pos hl]
  refine Eq.trans (retOf_bind (f := fun v m1 => closeC f.keep m.length v m1) hb) ?_
  simp only [hk]
  rw [← hml]
  exact close_more hm d t
theorem lc_draw {call : CallT} {v : Nat} {x : List Str} {s : CI} {e : CE} {env : Sl} (P : Int → Prop) (B : Nat) (mm : Mem) (l k c : Nat) (W : Int) (hm : LD mm) (hs : Sk mm l k) (hI : denI call s env mm = .ok ⟨rngL 0 W, []⟩ mm) (hW : W.toNat ≤ 900) (hk : k + c * W.toNat ≤ B)
    (he : ∀ (y : PyData) (m1 : Mem) (k1 : Nat), LD m1 → Sk m1 l k1 → k1 ≤ B → ∃ (i : Int) (m2 : Mem), denE call e (env.set v (some (.d y))) m1 = .ok (.d (.int i)) m2 ∧ P i ∧ Dn m1 l (k1 + c) m2) :
    ∃ (r : List Int) (m' : Mem), denE call (.lc false (.nm v) x s .nil e) env mm = .ok (.d (.list (r.map .int))) m' ∧ r.length = W.toNat ∧ (∀ i ∈ r, P i) ∧ Dn mm l (k + c * W.toNat) m' := by
  have hlen : (rngL 0 W).length = W.toNat := by rw [rngL_len, Int.sub_zero]
  obtain ⟨ys, m', h1, h2, h3, h4⟩ := lc_stepsN (v := v) (L := mm.length) (c := denTAnd call .nil) (e := denE call e) (env := env) (fun j m1 => Dn mm l (k + c * j) m1) (fun d => ∃ i, d = .int i ∧ P i) (fun _ _ => by simp only [denTAnd]) (fun _ _ h => h.len) W.toNat (rngL 0 W) [] 0 mm
    (by rw [hlen, List.length_nil, Nat.zero_add]; unfold sizeLine; omega) (by rw [hlen]; omega) (by rw [Nat.mul_zero, Nat.add_zero]; exact dn_refl hm hs) (by
      intro j m1 y a hj _ hI
      have hcj : c * j ≤ c * W.toNat := Nat.mul_le_mul_left c (by omega)
      obtain ⟨i, m2, e1, hp, s2⟩ := he y (m1 ++ [.lst a]) (k + c * j) (hI.1.appL a) (hI.2.2.app _) (by omega)
      obtain ⟨m3, rfl, s3⟩ := s2.in hI.1 hI.2.2.lt
      refine ⟨.int i, m3, e1, ⟨i, rfl, hp⟩, (hI.trans s3).mono ?_⟩
      rw [Nat.mul_succ]
      omega)
  rw [hlen] at h1 h3
  rw [Nat.zero_add] at h3
  have hr : ∃ r : List Int, ys = r.map .int ∧ ∀ i ∈ r, P i := by
    clear h1 h3 h4
    induction ys with
    | nil => exact ⟨[], rfl, fun i hi => by cases hi⟩
    | cons y ys ih =>
      obtain ⟨i, rfl, hp⟩ := h2 y (List.mem_cons_self ..)
      obtain ⟨r, rfl, hr⟩ := ih fun z hz => h2 z (List.mem_cons_of_mem _ hz)
      exact ⟨i :: r, rfl, fun j hj => (List.mem_cons.mp hj).elim (fun e => e ▸ hp) (hr j)⟩
  obtain ⟨r, rfl, hr⟩ := hr
  rw [List.length_map] at h1
  rw [List.nil_append] at h4
  exact ⟨r, m', lc_step hI h4 h3.len h3.1, h1, hr, h3⟩
theorem app_draw {call : CallT} {o e : CE} {env : Sl} {m m2 : Mem} {acc : List PyData} {v : PyData} {L : Nat} (hL : m.length = L) (hL2 : m2.length = L) (ho : denE call o env (m ++ [.lst acc]) = .ok (.loc L) (m ++ [.lst acc])) (he : denE call e env (m ++ [.lst acc]) = .ok (.d v) (m2 ++ [.lst acc])) (hz : acc.length < 1000) :
    denS call (.app o e) env (m ++ [.lst acc]) = .ok (.nx, env) (m2 ++ [.lst (acc ++ [v])]) := by
  subst hL
  have g1 : (m ++ [Ob.lst acc])[m.length]? = some (.lst acc) := get_last _
  have g2 : (m2 ++ [Ob.lst acc])[m.length]? = some (.lst acc) := by rw [← hL2]; exact get_last _
  have g3 : (m2 ++ [Ob.lst acc]).set m.length (.lst (acc ++ [v])) = m2 ++ [.lst (acc ++ [v])] := by rw [← hL2]; exact set_last _ _
  rw [denS, ho]
  simp only [Res.bind, isL, g1, he, apIx, g2, lt_sz hz, if_true, g3]
theorem tup_of {call : CallT} {c : CE} {env : Sl} {m m1 : Mem} {xs : List PyData} (h : denE call c env m = .ok (.d (.list xs)) m1) : denE call (.bi .tuple1 (.cons c .nil)) env m = .ok (.d (.tuple xs)) m1 := by
  rw [denE, denEs, h]
  simp only [Res.bind, denEs, rds, rd, Option.map_some, o_tup_l, dat]
theorem bin_step {call : CallT} {o : Operator} {a b : CE} {env : Sl} {m m1 m2 : Mem} {x y z : PyData} (ha : denE call a env m = .ok (.d x) m1) (hb : denE call b env m1 = .ok (.d y) m2) (h : binP o x y = some z) : denE call (.bin o a b) env m = .ok (.d z) m2 := by
  rw [denE, ha]
  simp only [Res.bind, hb, rdd, rd, h, dat]
theorem rev_run {call : CallT} {a : CE} {env : Sl} {m m1 : Mem} {v : Vl} {p q : PyData} (ha : denE call a env m = .ok v m1) (hr : rd m1 v = some p) (hq : revP p = some q) : denE call (.rev a (.neg (.cst (.int 1)))) env m = .ok (.d q) m1 := by
  have hk : denE call (.neg (.cst (.int 1))) env m1 = .ok (.d (.int (-1))) m1 := by simp only [denE, Res.bind, rdd, rd, dat, Int.reduceNeg]
  rw [denE, ha]
  simp only [Res.bind, hk, show isM1 (.d (.int (-1))) = true from rfl, if_true, rdd, hr, hq, dat]
end Ev

set_option maxHeartbeats 0
namespace K04
open PySem PySem.Spec PyProof.Rows L2 Ev
def top (i : Nat) : Stmt := PySem.Challenge.pw_rowhaul_k04_whole_one_in_the_place_of_an.main.body.getD i (.Pass ⟨0, 0, 0, 0⟩)
def gks : List (Str × PyData) := [("GREATEST", (.int 1000000000)), ("MOST_COLUMNS", (.int 9)), ("MOST_OPS", (.int 4))]
def lq : Str := "law.<locals>.<lambda>"
/-- is_whole -/
def f0 : Fd where
  name := "is_whole"
  ps := 1
  kw := []
  N := ["thing"]
  keep := false
  lam := false
  body := .cons (.ret (.and_ (.cons (.isi (.var 0) "int") (.cons (.not_ (.isi (.var 0) "bool")) .nil)))) .nil
/-- is_between -/
def f1 : Fd where
  name := "is_between"
  ps := 3
  kw := []
  N := ["thing", "low", "high"]
  keep := false
  lam := false
  body := .cons (.ret (.and_ (.cons (.call 0 "is_whole" (.cons (.var 0) .nil)) (.cons (.cmp2 .LtE .LtE (.var 1) (.var 0) (.var 2)) .nil)))) .nil
/-- need_between -/
def f2 : Fd where
  name := "need_between"
  ps := 3
  kw := []
  N := ["thing", "low", "high"]
  keep := false
  lam := false
  body := .cons (.iff (.not_ (.v (.call 1 "is_between" (.cons (.var 0) (.cons (.var 1) (.cons (.var 2) .nil)))))) (.cons (.raise_ "NoNumber" "a number out of its bounds") .nil) (.nil)) .nil
/-- is_word -/
def f3 : Fd where
  name := "is_word"
  ps := 1
  kw := []
  N := ["thing"]
  keep := false
  lam := false
  body := .cons (.ret (.call 1 "is_between" (.cons (.var 0) (.cons (.bin .Sub (.cst (.int 0)) (.gk "GREATEST" (.int 1000000000))) (.cons (.gk "GREATEST" (.int 1000000000)) .nil))))) .nil
/-- plus_by -/
def f4 : Fd where
  name := "plus_by"
  ps := 2
  kw := []
  N := ["one", "other"]
  keep := false
  lam := false
  body := .cons (.ret (.bin .Add (.var 0) (.var 1))) .nil
/-- minus_by -/
def f5 : Fd where
  name := "minus_by"
  ps := 2
  kw := []
  N := ["one", "other"]
  keep := false
  lam := false
  body := .cons (.ret (.bin .Sub (.var 0) (.var 1))) .nil
/-- times_by -/
def f6 : Fd where
  name := "times_by"
  ps := 2
  kw := []
  N := ["one", "other"]
  keep := false
  lam := false
  body := .cons (.ret (.bin .Mult (.var 0) (.var 1))) .nil
/-- over_by -/
def f7 : Fd where
  name := "over_by"
  ps := 2
  kw := []
  N := ["one", "other"]
  keep := false
  lam := false
  body := .cons (.iff (.v (.cmp .Eq (.var 1) (.cst (.int 0)))) (.cons (.raiseF "Falls" "word" (.cst (.str "nought"))) .nil) (.nil)) (.cons (.ret (.bin .FloorDiv (.var 0) (.var 1))) .nil)
/-- rest_by -/
def f8 : Fd where
  name := "rest_by"
  ps := 2
  kw := []
  N := ["one", "other"]
  keep := false
  lam := false
  body := .cons (.iff (.v (.cmp .Eq (.var 1) (.cst (.int 0)))) (.cons (.raiseF "Falls" "word" (.cst (.str "nought"))) .nil) (.nil)) (.cons (.ret (.bin .Mod (.var 0) (.var 1))) .nil)
/-- less_by -/
def f9 : Fd where
  name := "less_by"
  ps := 2
  kw := []
  N := ["one", "other"]
  keep := false
  lam := false
  body := .cons (.ret (.bi .int1 (.cons (.cmp .Lt (.var 0) (.var 1)) .nil))) .nil
/-- same_by -/
def f10 : Fd where
  name := "same_by"
  ps := 2
  kw := []
  N := ["one", "other"]
  keep := false
  lam := false
  body := .cons (.ret (.bi .int1 (.cons (.cmp .Eq (.var 0) (.var 1)) .nil))) .nil
/-- is_expr_by -/
def f11 : Fd where
  name := "is_expr_by"
  ps := 4
  kw := []
  N := ["thing", "width", "carried", "left", "part"]
  keep := false
  lam := false
  body := .cons (.iff (.not_ (.v (.isi (.var 0) "tuple"))) (.cons (.ret (.call 3 "is_word" (.cons (.var 0) .nil))) .nil) (.nil)) (.cons (.iff (.v (.cmp .Eq (.var 0) (.tup (.cons (.cst (.str "was")) .nil)))) (.cons (.ret (.var 2)) .nil) (.nil)) (.cons (.iff (.v (.cmp .Eq (.bi .len (.cons (.var 0) .nil)) (.cst (.int 2)))) (.cons (.ret (.and_ (.cons (.cmp .Eq (.ix (.var 0) (.cst (.int 0))) (.cst (.str "at"))) (.cons (.call 1 "is_between" (.cons (.ix (.var 0) (.cst (.int 1))) (.cons (.cst (.int 0)) (.cons (.bin .Sub (.var 1) (.cst (.int 1))) .nil)))) .nil)))) .nil) (.nil)) (.cons (.iff (.or_ (.cons (.v (.cmp .NotEq (.bi .len (.cons (.var 0) .nil)) (.cst (.int 3)))) (.cons (.v (.cmp .Eq (.var 3) (.cst (.int 0)))) (.cons (.not_ (.v (.isi (.ix (.var 0) (.cst (.int 0))) "str"))) (.cons (.v (.inK true (.ix (.var 0) (.cst (.int 0))) "OPS" ["plus", "minus", "times", "over", "rest", "less", "same"])) .nil))))) (.cons (.ret (.cst (.bool false))) .nil) (.nil)) (.cons (.ret (.bi .all1 (.cons (.lc false (.nm 4) ["part"] (.e (.sl (.var 0) (.so (.cst (.int 1))) .no)) .nil (.call 11 "is_expr_by" (.cons (.var 4) (.cons (.var 1) (.cons (.var 2) (.cons (.bin .Sub (.var 3) (.cst (.int 1))) .nil)))))) .nil))) .nil))))
/-- is_expr -/
def f12 : Fd where
  name := "is_expr"
  ps := 3
  kw := [("carried", (.bool false))]
  N := ["thing", "width", "carried"]
  keep := false
  lam := false
  body := .cons (.expr (.call 2 "need_between" (.cons (.var 1) (.cons (.cst (.int 0)) (.cons (.gk "MOST_COLUMNS" (.int 9)) .nil))))) (.cons (.ret (.call 11 "is_expr_by" (.cons (.var 0) (.cons (.var 1) (.cons (.var 2) (.cons (.gk "MOST_OPS" (.int 4)) .nil)))))) .nil)
/-- worth_in -/
def f13 : Fd where
  name := "worth_in"
  ps := 3
  kw := []
  N := ["expr", "record", "was", "do", "found", "word", "one", "other", "parts", "part"]
  keep := false
  lam := false
  body := .cons (.iff (.v (.isi (.var 0) "int")) (.cons (.ret (.var 0)) .nil) (.nil)) (.cons (.setSt [5] 8 (.var 0)) (.cons (.iff (.v (.cmp .Eq (.var 5) (.cst (.str "at")))) (.cons (.ret (.ix (.var 1) (.ix (.var 8) (.cst (.int 0))))) .nil) (.nil)) (.cons (.iff (.v (.cmp .Eq (.var 5) (.cst (.str "was")))) (.cons (.ret (.var 2)) .nil) (.nil)) (.cons (.setT [6, 7] (.lc false (.nm 9) ["part"] (.e (.var 8)) .nil (.call 13 "worth_in" (.cons (.var 9) (.cons (.var 1) (.cons (.var 2) .nil)))))) (.op 3 "OPS" [("plus", 4), ("minus", 5), ("times", 6), ("over", 7), ("rest", 8), ("less", 9), ("same", 10)] (.var 5) 4 (.cons (.var 6) (.cons (.var 7) .nil)) (.cons (.iff (.not_ (.v (.call 3 "is_word" (.cons (.var 4) .nil)))) (.cons (.raiseF "Falls" "word" (.cst (.str "great"))) .nil) (.nil)) (.cons (.ret (.var 4)) .nil)))))))
/-- worth -/
def f14 : Fd where
  name := "worth"
  ps := 3
  kw := [("was", (.int 0))]
  N := ["expr", "record", "was"]
  keep := false
  lam := false
  body := .cons (.ret (.call 13 "worth_in" (.cons (.var 0) (.cons (.var 1) (.cons (.var 2) .nil))))) .nil
/-- _law_sack -/
def f15 : Fd where
  name := "_law_sack"
  ps := 2
  kw := []
  N := ["script", "at", "cell", "great"]
  keep := true
  lam := false
  body := .cons (.set 2 (.bin .Add (.bin .Mult (.cst (.int 3)) (.var 1)) (.cst (.int 1)))) (.cons (.iff (.v (.cmp .Lt (.var 1) (.bi .len (.cons (.var 0) .nil)))) (.cons (.set 2 (.ix (.var 0) (.var 1))) .nil) (.nil)) (.cons (.set 3 (.bin .Mod (.bi .abs (.cons (.var 2) .nil)) (.bin .Pow (.bin .Pow (.cst (.int 10)) (.cst (.int 60))) (.cst (.int 12))))) (.cons (.ret (.lst true (.cons (.bi .max2 (.cons (.cst (.int 0)) (.cons (.bin .Sub (.var 3) (.bin .Pow (.cst (.int 10)) (.cst (.int 16)))) .nil))) (.cons (.bin .Mod (.bin .Add (.bin .Add (.bin .Add (.bin .Mult (.var 3) (.cst (.int 6700417))) (.bin .Mult (.cst (.int 524287)) (.var 1))) (.bin .Mult (.cst (.int 2)) (.bi .int1 (.cons (.cmp .Lt (.var 2) (.cst (.int 0))) .nil)))) (.cst (.int 11))) (.cst (.int 2147483647))) (.cons (.cst (.int 0)) .nil))))) .nil)))
/-- _law_draw -/
def f16 : Fd where
  name := "_law_draw"
  ps := 2
  kw := []
  N := ["sack", "many", "one", "stir", "two", "found"]
  keep := false
  lam := false
  body := .cons (.iff (.v (.cmp .Gt (.ix (.var 0) (.cst (.int 0))) (.cst (.int 0)))) (.cons (.set 5 (.bin .Mod (.ix (.var 0) (.cst (.int 0))) (.var 1))) (.cons (.setix (.var 0) (.cst (.int 0)) (.bin .FloorDiv (.ix (.var 0) (.cst (.int 0))) (.var 1))) (.cons (.ret (.var 5)) .nil))) (.nil)) (.cons (.setix (.var 0) (.cst (.int 2)) (.bin .Add (.ix (.var 0) (.cst (.int 2))) (.cst (.int 1)))) (.cons (.set 2 (.bin .Mod (.bin .Add (.ix (.var 0) (.cst (.int 1))) (.bin .Mult (.cst (.int 1299709)) (.ix (.var 0) (.cst (.int 2))))) (.cst (.int 2147483629)))) (.cons (.set 3 (.bin .Add (.bin .Mult (.bin .Mod (.bin .Mult (.var 2) (.var 2)) (.cst (.int 2147483587))) (.var 2)) (.bin .Mult (.cst (.int 7919)) (.ix (.var 0) (.cst (.int 2)))))) (.cons (.set 4 (.bin .Mod (.bin .Add (.var 3) (.bin .Mod (.ix (.var 0) (.cst (.int 1))) (.cst (.int 65521)))) (.cst (.int 2147483563)))) (.cons (.set 5 (.bin .Add (.bin .FloorDiv (.bin .Mod (.bin .Mult (.var 4) (.var 4)) (.cst (.int 2147483549))) (.cst (.int 32))) (.bin .Mult (.bin .Mult (.cst (.int 2147483563)) (.var 2)) (.bi .int1 (.cons (.cmp .Gt (.var 1) (.bin .Pow (.cst (.int 10)) (.cst (.int 6)))) .nil))))) (.cons (.ret (.bin .Mod (.var 5) (.var 1))) .nil))))))
/-- _law_leaf -/
def f17 : Fd where
  name := "_law_leaf"
  ps := 3
  kw := []
  N := ["sack", "wide", "led", "way"]
  keep := false
  lam := false
  body := .cons (.set 3 (.call 16 "_law_draw" (.cons (.var 0) (.cons (.cst (.int 8)) .nil)))) (.cons (.iff (.and_ (.cons (.v (.var 2)) (.cons (.v (.cmp .Lt (.var 3) (.cst (.int 3)))) .nil))) (.cons (.ret (.tup (.cons (.cst (.str "was")) .nil))) .nil) (.nil)) (.cons (.iff (.and_ (.cons (.v (.cmp .Gt (.var 1) (.cst (.int 0)))) (.cons (.v (.cmp .Lt (.var 3) (.cst (.int 6)))) .nil))) (.cons (.ret (.tup (.cons (.cst (.str "at")) (.cons (.call 16 "_law_draw" (.cons (.var 0) (.cons (.var 1) .nil))) .nil)))) .nil) (.nil)) (.cons (.ret (.ix (.lst false (.cons (.cst (.int 0)) (.cons (.cst (.int 1)) (.cons (.cst (.int 2)) (.cons (.neg (.cst (.int 1))) (.cons (.cst (.int 3)) (.cons (.bin .Sub (.call 16 "_law_draw" (.cons (.var 0) (.cons (.cst (.int 21)) .nil))) (.cst (.int 10))) (.cons (.bin .Pow (.cst (.int 10)) (.cst (.int 9))) (.cons (.neg (.bin .Pow (.cst (.int 10)) (.cst (.int 9)))) .nil))))))))) (.call 16 "_law_draw" (.cons (.var 0) (.cons (.cst (.int 8)) .nil))))) .nil)))
/-- _law_expr -/
def f18 : Fd where
  name := "_law_expr"
  ps := 4
  kw := []
  N := ["sack", "wide", "deep", "led", "op", "one"]
  keep := false
  lam := false
  body := .cons (.iff (.or_ (.cons (.v (.cmp .Lt (.var 2) (.cst (.int 1)))) (.cons (.v (.cmp .Eq (.call 16 "_law_draw" (.cons (.var 0) (.cons (.cst (.int 3)) .nil))) (.cst (.int 0)))) .nil))) (.cons (.ret (.call 17 "_law_leaf" (.cons (.var 0) (.cons (.var 1) (.cons (.var 3) .nil))))) .nil) (.nil)) (.cons (.set 4 (.ix (.lst false (.cons (.cst (.str "plus")) (.cons (.cst (.str "minus")) (.cons (.cst (.str "times")) (.cons (.cst (.str "over")) (.cons (.cst (.str "rest")) (.cons (.cst (.str "less")) (.cons (.cst (.str "same")) (.cons (.cst (.str "plus")) (.cons (.cst (.str "less")) (.cons (.cst (.str "rest")) .nil))))))))))) (.call 16 "_law_draw" (.cons (.var 0) (.cons (.cst (.int 10)) .nil))))) (.cons (.set 5 (.call 18 "_law_expr" (.cons (.var 0) (.cons (.var 1) (.cons (.bin .Sub (.var 2) (.cst (.int 1))) (.cons (.var 3) .nil)))))) (.cons (.iff (.and_ (.cons (.v (.cmp .In (.var 4) (.tup (.cons (.cst (.str "over")) (.cons (.cst (.str "rest")) .nil))))) (.cons (.v (.cmp .Gt (.call 16 "_law_draw" (.cons (.var 0) (.cons (.cst (.int 5)) .nil))) (.cst (.int 0)))) .nil))) (.cons (.ret (.tup (.cons (.var 4) (.cons (.var 5) (.cons (.ix (.lst false (.cons (.cst (.int 1)) (.cons (.cst (.int 2)) (.cons (.cst (.int 3)) (.cons (.neg (.cst (.int 2))) (.cons (.cst (.int 7)) .nil)))))) (.call 16 "_law_draw" (.cons (.var 0) (.cons (.cst (.int 5)) .nil)))) .nil))))) .nil) (.nil)) (.cons (.ret (.tup (.cons (.var 4) (.cons (.var 5) (.cons (.call 18 "_law_expr" (.cons (.var 0) (.cons (.var 1) (.cons (.bin .Sub (.var 2) (.cst (.int 1))) (.cons (.var 3) .nil))))) .nil))))) .nil))))
/-- _law_word -/
def f19 : Fd where
  name := "_law_word"
  ps := 1
  kw := []
  N := ["sack", "way"]
  keep := false
  lam := false
  body := .cons (.set 1 (.call 16 "_law_draw" (.cons (.var 0) (.cons (.cst (.int 5)) .nil)))) (.cons (.iff (.v (.cmp .Lt (.var 1) (.cst (.int 3)))) (.cons (.ret (.bin .Sub (.call 16 "_law_draw" (.cons (.var 0) (.cons (.cst (.int 9)) .nil))) (.cst (.int 4)))) .nil) (.nil)) (.cons (.iff (.v (.cmp .Eq (.var 1) (.cst (.int 3)))) (.cons (.ret (.ix (.lst false (.cons (.bin .Pow (.cst (.int 10)) (.cst (.int 9))) (.cons (.neg (.bin .Pow (.cst (.int 10)) (.cst (.int 9)))) (.cons (.cst (.int 40000)) (.cons (.neg (.cst (.int 40000))) .nil))))) (.call 16 "_law_draw" (.cons (.var 0) (.cons (.cst (.int 4)) .nil))))) .nil) (.nil)) (.cons (.ret (.bin .Sub (.call 16 "_law_draw" (.cons (.var 0) (.cons (.bin .Add (.bin .Mult (.cst (.int 2)) (.bin .Pow (.cst (.int 10)) (.cst (.int 9)))) (.cst (.int 1))) .nil))) (.bin .Pow (.cst (.int 10)) (.cst (.int 9))))) .nil)))
/-- _law_met -/
def f20 : Fd where
  name := "_law_met"
  ps := 3
  kw := []
  N := ["expr", "record", "elder", "e"]
  keep := false
  lam := false
  body := .cons (.try_ (.ret (.tup (.cons (.cst (.int 0)) (.cons (.callK 14 "worth" (.cons (.var 0) (.cons (.var 1) .nil)) ["was"] (.cons (.var 2) .nil)) .nil)))) "Falls" ["Falls", "NoNumber"] ["Falls"] 3 [.ret (.pair (.int 1) (.fld "word"))]) .nil
/-- _law_has -/
def f21 : Fd where
  name := "_law_has"
  ps := 2
  kw := []
  N := ["expr", "leaf"]
  keep := false
  lam := false
  body := .cons (.iff (.v (.cmp .Eq (.var 0) (.var 1))) (.cons (.ret (.cst (.bool true))) .nil) (.nil)) (.cons (.iff (.and_ (.cons (.v (.isi (.var 0) "tuple")) (.cons (.v (.cmp .Eq (.bi .len (.cons (.var 0) .nil)) (.cst (.int 3)))) .nil))) (.cons (.ret (.or_ (.cons (.call 21 "_law_has" (.cons (.ix (.var 0) (.cst (.int 1))) (.cons (.var 1) .nil))) (.cons (.call 21 "_law_has" (.cons (.ix (.var 0) (.cst (.int 2))) (.cons (.var 1) .nil))) .nil)))) .nil) (.nil)) (.cons (.ret (.cst (.bool false))) .nil))
/-- _law_put -/
def f22 : Fd where
  name := "_law_put"
  ps := 3
  kw := []
  N := ["expr", "leaf", "other"]
  keep := false
  lam := false
  body := .cons (.iff (.and_ (.cons (.v (.cmp .Eq (.var 0) (.var 1))) (.cons (.not_ (.v (.isi (.var 0) "int"))) .nil))) (.cons (.ret (.var 2)) .nil) (.nil)) (.cons (.iff (.and_ (.cons (.v (.isi (.var 0) "tuple")) (.cons (.v (.cmp .Eq (.bi .len (.cons (.var 0) .nil)) (.cst (.int 3)))) .nil))) (.cons (.ret (.tup (.cons (.ix (.var 0) (.cst (.int 0))) (.cons (.call 22 "_law_put" (.cons (.ix (.var 0) (.cst (.int 1))) (.cons (.var 1) (.cons (.var 2) .nil)))) (.cons (.call 22 "_law_put" (.cons (.ix (.var 0) (.cst (.int 2))) (.cons (.var 1) (.cons (.var 2) .nil)))) .nil))))) .nil) (.nil)) (.cons (.ret (.var 0)) .nil))
/-- _law_turned -/
def f23 : Fd where
  name := "_law_turned"
  ps := 2
  kw := []
  N := ["expr", "order"]
  keep := false
  lam := false
  body := .cons (.iff (.and_ (.cons (.v (.isi (.var 0) "tuple")) (.cons (.v (.cmp .Eq (.ix (.var 0) (.cst (.int 0))) (.cst (.str "at")))) .nil))) (.cons (.ret (.tup (.cons (.cst (.str "at")) (.cons (.ix (.var 1) (.ix (.var 0) (.cst (.int 1)))) .nil)))) .nil) (.nil)) (.cons (.iff (.and_ (.cons (.v (.isi (.var 0) "tuple")) (.cons (.v (.cmp .Eq (.bi .len (.cons (.var 0) .nil)) (.cst (.int 3)))) .nil))) (.cons (.ret (.tup (.cons (.ix (.var 0) (.cst (.int 0))) (.cons (.call 23 "_law_turned" (.cons (.ix (.var 0) (.cst (.int 1))) (.cons (.var 1) .nil))) (.cons (.call 23 "_law_turned" (.cons (.ix (.var 0) (.cst (.int 2))) (.cons (.var 1) .nil))) .nil))))) .nil) (.nil)) (.cons (.ret (.var 0)) .nil))
/-- _law_bare -/
def f24 : Fd where
  name := "_law_bare"
  ps := 2
  kw := []
  N := ["expr", "words"]
  keep := false
  lam := false
  body := .cons (.iff (.v (.isi (.var 0) "int")) (.cons (.app (.var 1) (.var 0)) (.cons (.ret (.tup (.cons (.cst (.str "at")) (.cons (.bin .Sub (.bi .len (.cons (.var 1) .nil)) (.cst (.int 1))) .nil)))) .nil)) (.nil)) (.cons (.iff (.v (.cmp .Eq (.bi .len (.cons (.var 0) .nil)) (.cst (.int 3)))) (.cons (.ret (.tup (.cons (.ix (.var 0) (.cst (.int 0))) (.cons (.call 24 "_law_bare" (.cons (.ix (.var 0) (.cst (.int 1))) (.cons (.var 1) .nil))) (.cons (.call 24 "_law_bare" (.cons (.ix (.var 0) (.cst (.int 2))) (.cons (.var 1) .nil))) .nil))))) .nil) (.nil)) (.cons (.ret (.var 0)) .nil))
/-- _law_put_right -/
def f25 : Fd where
  name := "_law_put_right"
  ps := 4
  kw := []
  N := ["expr", "other", "record", "elder", "leaf", "made", "due", "told"]
  keep := false
  lam := false
  body := .cons (.set 4 (.tup (.cons (.cst (.str "at")) (.cons (.bi .len (.cons (.var 2) .nil)) .nil)))) (.cons (.set 5 (.call 22 "_law_put" (.cons (.var 0) (.cons (.var 4) (.cons (.var 1) .nil))))) (.cons (.iff (.not_ (.v (.callK 12 "is_expr" (.cons (.var 5) (.cons (.bi .len (.cons (.var 2) .nil)) .nil)) ["carried"] (.cons (.cst (.bool true)) .nil)))) (.cons (.ret (.cst (.bool false))) .nil) (.nil)) (.cons (.set 6 (.call 20 "_law_met" (.cons (.var 1) (.cons (.var 2) (.cons (.var 3) .nil))))) (.cons (.set 7 (.call 20 "_law_met" (.cons (.var 5) (.cons (.var 2) (.cons (.var 3) .nil))))) (.cons (.iff (.v (.cmp .Eq (.ix (.var 6) (.cst (.int 0))) (.cst (.int 0)))) (.cons (.ret (.cmp .Eq (.var 7) (.call 20 "_law_met" (.cons (.var 0) (.cons (.bin .Add (.var 2) (.tup (.cons (.ix (.var 6) (.cst (.int 1))) .nil))) (.cons (.var 3) .nil)))))) .nil) (.nil)) (.cons (.iff (.v (.call 21 "_law_has" (.cons (.var 0) (.cons (.var 4) .nil)))) (.cons (.ret (.cmp .Eq (.ix (.var 7) (.cst (.int 0))) (.cst (.int 1)))) .nil) (.nil)) (.cons (.ret (.cmp .Eq (.var 7) (.call 20 "_law_met" (.cons (.var 0) (.cons (.bin .Add (.var 2) (.tup (.cons (.cst (.int 0)) .nil))) (.cons (.var 3) .nil)))))) .nil)))))))
/-- _law_others_right -/
def f26 : Fd where
  name := "_law_others_right"
  ps := 4
  kw := []
  N := ["sack", "expr", "record", "elder", "told", "left", "order", "turned", "words", "bare", "at", "word", "turn"]
  keep := false
  lam := false
  body := .cons (.set 4 (.call 20 "_law_met" (.cons (.var 1) (.cons (.var 2) (.cons (.var 3) .nil))))) (.cons (.set 5 (.lstR true (.bi .len (.cons (.var 2) .nil)))) (.cons (.set 6 (.lc false (.nm 12) ["turn"] (.rng1 (.bi .len (.cons (.var 2) .nil))) .nil (.popA (.var 5) (.call 16 "_law_draw" (.cons (.var 0) (.cons (.bi .len (.cons (.var 5) .nil)) .nil)))))) (.cons (.set 7 (.repO (.lst false (.cons (.cst (.int 0)) .nil)) (.bi .len (.cons (.var 2) .nil)))) (.cons (.for_ (.tup (.cons (.nm 10) (.cons (.nm 11) .nil))) (.enum (.var 2)) (.cons (.setix (.var 7) (.ix (.var 6) (.var 10)) (.var 11)) .nil)) (.cons (.iff (.v (.cmp .NotEq (.call 20 "_law_met" (.cons (.call 23 "_law_turned" (.cons (.var 1) (.cons (.var 6) .nil))) (.cons (.bi .tuple1 (.cons (.var 7) .nil)) (.cons (.var 3) .nil)))) (.var 4))) (.cons (.ret (.cst (.bool false))) .nil) (.nil)) (.cons (.iff (.v (.cmp .NotEq (.call 20 "_law_met" (.cons (.call 22 "_law_put" (.cons (.var 1) (.cons (.tup (.cons (.cst (.str "was")) .nil)) (.cons (.var 3) .nil)))) (.cons (.var 2) (.cons (.cst (.int 7)) .nil)))) (.var 4))) (.cons (.ret (.cst (.bool false))) .nil) (.nil)) (.cons (.set 8 (.lstC (.var 2))) (.cons (.set 9 (.call 24 "_law_bare" (.cons (.var 1) (.cons (.var 8) .nil)))) (.cons (.ret (.or_ (.cons (.cmp .Gt (.bi .len (.cons (.var 8) .nil)) (.cst (.int 9))) (.cons (.cmp .Eq (.call 20 "_law_met" (.cons (.var 9) (.cons (.bi .tuple1 (.cons (.var 8) .nil)) (.cons (.var 3) .nil)))) (.var 4)) .nil)))) .nil)))))))))
/-- law -/
def f27 : Fd where
  name := "law"
  ps := 1
  kw := []
  N := ["script", "at", "sack", "record", "elder", "turn", "expr", "other", "op"]
  keep := false
  lam := false
  body := .cons (.for_ (.nm 1) (.rng1 (.bi .max2 (.cons (.cst (.int 1)) (.cons (.bi .min2 (.cons (.cst (.int 20)) (.cons (.bi .len (.cons (.var 0) .nil)) .nil))) .nil)))) (.cons (.set 2 (.call 15 "_law_sack" (.cons (.var 0) (.cons (.var 1) .nil)))) (.cons (.set 3 (.bi .tuple1 (.cons (.lc false (.nm 5) ["turn"] (.rng1 (.bin .Add (.cst (.int 1)) (.call 16 "_law_draw" (.cons (.var 2) (.cons (.cst (.int 6)) .nil))))) .nil (.call 19 "_law_word" (.cons (.var 2) .nil))) .nil))) (.cons (.set 4 (.call 19 "_law_word" (.cons (.var 2) .nil))) (.cons (.for_ (.nm 5) (.rng1 (.cst (.int 3))) (.cons (.set 6 (.call 18 "_law_expr" (.cons (.var 2) (.cons (.bin .Add (.bi .len (.cons (.var 3) .nil)) (.cst (.int 1))) (.cons (.cst (.int 2)) (.cons (.cst (.bool true)) .nil)))))) (.cons (.iff (.not_ (.v (.call 21 "_law_has" (.cons (.var 6) (.cons (.tup (.cons (.cst (.str "at")) (.cons (.bi .len (.cons (.var 3) .nil)) .nil))) .nil))))) (.cons (.set 8 (.ix (.lst false (.cons (.cst (.str "plus")) (.cons (.cst (.str "over")) (.cons (.cst (.str "times")) (.cons (.cst (.str "less")) .nil))))) (.call 16 "_law_draw" (.cons (.var 2) (.cons (.cst (.int 4)) .nil))))) (.cons (.set 6 (.tup (.cons (.var 8) (.cons (.tup (.cons (.cst (.str "at")) (.cons (.bi .len (.cons (.var 3) .nil)) .nil))) (.cons (.var 6) .nil))))) .nil)) (.nil)) (.cons (.set 7 (.call 18 "_law_expr" (.cons (.var 2) (.cons (.bi .len (.cons (.var 3) .nil)) (.cons (.cst (.int 2)) (.cons (.cst (.bool true)) .nil)))))) (.cons (.iff (.not_ (.v (.call 25 "_law_put_right" (.cons (.var 6) (.cons (.var 7) (.cons (.var 3) (.cons (.var 4) .nil))))))) (.cons (.ret (.cst (.bool false))) .nil) (.nil)) (.cons (.iff (.not_ (.v (.call 26 "_law_others_right" (.cons (.var 2) (.cons (.var 7) (.cons (.var 3) (.cons (.var 4) .nil))))))) (.cons (.ret (.cst (.bool false))) .nil) (.nil)) .nil)))))) .nil))))) (.cons (.setT [6, 7] (.tup (.cons (.tup (.cons (.cst (.str "over")) (.cons (.tup (.cons (.cst (.str "at")) (.cons (.cst (.int 1)) .nil))) (.cons (.tup (.cons (.cst (.str "at")) (.cons (.cst (.int 0)) .nil))) .nil)))) (.cons (.tup (.cons (.cst (.str "minus")) (.cons (.tup (.cons (.cst (.str "at")) (.cons (.cst (.int 0)) .nil))) (.cons (.cst (.int 4)) .nil)))) .nil)))) (.cons (.ret (.and_ (.cons (.cmp .Eq (.callD 14 "worth" (.cons (.call 22 "_law_put" (.cons (.var 6) (.cons (.tup (.cons (.cst (.str "at")) (.cons (.cst (.int 1)) .nil))) (.cons (.var 7) .nil)))) (.cons (.tup (.cons (.cst (.int 2)) .nil)) .nil)) [(.int 0)]) (.neg (.cst (.int 1)))) (.cons (.call 25 "_law_put_right" (.cons (.var 6) (.cons (.tup (.cons (.cst (.str "over")) (.cons (.cst (.int 1)) (.cons (.cst (.int 0)) .nil)))) (.cons (.tup (.cons (.cst (.int 2)) .nil)) (.cons (.cst (.int 0)) .nil))))) .nil)))) .nil))
def T : List Fd := [f0, f1, f2, f3, f4, f5, f6, f7, f8, f9, f10, f11, f12, f13, f14, f15, f16, f17, f18, f19, f20, f21, f22, f23, f24, f25, f26, f27]
def cls : List Str := ["Falls", "NoNumber"]
def exm : List (Str × Str × Bool) := [("Falls", "Falls", true), ("NoNumber", "Falls", false)]
def cls0 : List Str := ["NoNumber"]
def xcl : List (Str × Str) := [("Falls", "word")]
def tfs : List (Str × List (Str × Nat)) := [("OPS", [("plus", 4), ("minus", 5), ("times", 6), ("over", 7), ("rest", 8), ("less", 9), ("same", 10)])]
def xclA (K : PySem.W.Frag) : Bool := xclB "ArithmeticError" "ArithmeticError.__new__" "ArithmeticError.__init__" [.type "ArithmeticError", .type "Exception", .type "BaseException", .type "object"] K "Falls" "word"
def ysOPS : List (Str × Str) := [("plus", "plus_by"), ("minus", "minus_by"), ("times", "times_by"), ("over", "over_by"), ("rest", "rest_by"), ("less", "less_by"), ("same", "same_by")]
def tfA (K : PySem.W.Frag) : Bool := tfK K "OPS" ysOPS
def exB (K : PySem.W.Frag) : Bool := cls.all (fun x => clsA K x) && (exm.all (fun p => emB K p) && (cls0.all (fun x => clsB K x) && (xclA K && tfA K)))
def clsAt (s : Stmt) (j : Nat) : Stmt := match s with
  | .ClassDef _ _ _ b _ _ _ _ _ _ _ => b.getD j (.Pass ⟨0, 0, 0, 0⟩)
  | _ => .Pass ⟨0, 0, 0, 0⟩
abbrev sx0 : Stmt := clsAt (top 3) 0
def tbs : List (Str × List Str) := [("OPS", ["plus", "minus", "times", "over", "rest", "less", "same"])]
def lams : List LamD := []
abbrev S : Tab := mkTab T gks cls exm tbs lams lq cls0 xcl tfs
abbrev s0 : Stmt := top 8
theorem ok0 : FdOk S ["thing"] f0 (defScope s0) (defBody s0) :=
  ⟨⟨rfl, rfl, rfl, by decide +kernel, rfl, by decide +kernel, by decide +kernel⟩, by decide +kernel, rfl, by decide +kernel⟩
abbrev s1 : Stmt := top 9
theorem ok1 : FdOk S ["thing", "low", "high"] f1 (defScope s1) (defBody s1) :=
  ⟨⟨rfl, rfl, rfl, by decide +kernel, rfl, by decide +kernel, by decide +kernel⟩, by decide +kernel, rfl, by decide +kernel⟩
abbrev s2 : Stmt := top 10
theorem ok2 : FdOk S ["thing", "low", "high"] f2 (defScope s2) (defBody s2) :=
  ⟨⟨rfl, rfl, rfl, by decide +kernel, rfl, by decide +kernel, by decide +kernel⟩, by decide +kernel, rfl, by decide +kernel⟩
abbrev s3 : Stmt := top 11
theorem ok3 : FdOk S ["thing"] f3 (defScope s3) (defBody s3) :=
  ⟨⟨rfl, rfl, rfl, by decide +kernel, rfl, by decide +kernel, by decide +kernel⟩, by decide +kernel, rfl, by decide +kernel⟩
abbrev s4 : Stmt := top 12
theorem ok4 : FdOk S ["one", "other"] f4 (defScope s4) (defBody s4) :=
  ⟨⟨rfl, rfl, rfl, by decide +kernel, rfl, by decide +kernel, by decide +kernel⟩, by decide +kernel, rfl, by decide +kernel⟩
abbrev s5 : Stmt := top 13
theorem ok5 : FdOk S ["one", "other"] f5 (defScope s5) (defBody s5) :=
  ⟨⟨rfl, rfl, rfl, by decide +kernel, rfl, by decide +kernel, by decide +kernel⟩, by decide +kernel, rfl, by decide +kernel⟩
abbrev s6 : Stmt := top 14
theorem ok6 : FdOk S ["one", "other"] f6 (defScope s6) (defBody s6) :=
  ⟨⟨rfl, rfl, rfl, by decide +kernel, rfl, by decide +kernel, by decide +kernel⟩, by decide +kernel, rfl, by decide +kernel⟩
abbrev s7 : Stmt := top 15
theorem ok7 : FdOk S ["one", "other"] f7 (defScope s7) (defBody s7) :=
  ⟨⟨rfl, rfl, rfl, by decide +kernel, rfl, by decide +kernel, by decide +kernel⟩, by decide +kernel, rfl, by decide +kernel⟩
abbrev s8 : Stmt := top 16
theorem ok8 : FdOk S ["one", "other"] f8 (defScope s8) (defBody s8) :=
  ⟨⟨rfl, rfl, rfl, by decide +kernel, rfl, by decide +kernel, by decide +kernel⟩, by decide +kernel, rfl, by decide +kernel⟩
abbrev s9 : Stmt := top 17
theorem ok9 : FdOk S ["one", "other"] f9 (defScope s9) (defBody s9) :=
  ⟨⟨rfl, rfl, rfl, by decide +kernel, rfl, by decide +kernel, by decide +kernel⟩, by decide +kernel, rfl, by decide +kernel⟩
abbrev s10 : Stmt := top 18
theorem ok10 : FdOk S ["one", "other"] f10 (defScope s10) (defBody s10) :=
  ⟨⟨rfl, rfl, rfl, by decide +kernel, rfl, by decide +kernel, by decide +kernel⟩, by decide +kernel, rfl, by decide +kernel⟩
abbrev s11 : Stmt := top 20
theorem ok11 : FdOk S ["thing", "width", "carried", "left"] f11 (defScope s11) (defBody s11) :=
  ⟨⟨rfl, rfl, rfl, by decide +kernel, rfl, by decide +kernel, by decide +kernel⟩, by decide +kernel, rfl, by decide +kernel⟩
abbrev s12 : Stmt := top 21
theorem ok12 : FdOk S ["thing", "width", "carried"] f12 (defScope s12) (defBody s12) :=
  ⟨⟨rfl, rfl, rfl, by decide +kernel, rfl, by decide +kernel, by decide +kernel⟩, by decide +kernel, rfl, by decide +kernel⟩
abbrev s13 : Stmt := top 22
theorem ok13 : FdOk S ["expr", "record", "was"] f13 (defScope s13) (defBody s13) :=
  ⟨⟨rfl, rfl, rfl, by decide +kernel, rfl, by decide +kernel, by decide +kernel⟩, by decide +kernel, rfl, by decide +kernel⟩
abbrev s14 : Stmt := top 23
theorem ok14 : FdOk S ["expr", "record", "was"] f14 (defScope s14) (defBody s14) :=
  ⟨⟨rfl, rfl, rfl, by decide +kernel, rfl, by decide +kernel, by decide +kernel⟩, by decide +kernel, rfl, by decide +kernel⟩
abbrev s15 : Stmt := top 25
theorem ok15 : FdOk S ["script", "at"] f15 (defScope s15) (defBody s15) :=
  ⟨⟨rfl, rfl, rfl, by decide +kernel, rfl, by decide +kernel, by decide +kernel⟩, by decide +kernel, rfl, by decide +kernel⟩
abbrev s16 : Stmt := top 26
theorem ok16 : FdOk S ["sack", "many"] f16 (defScope s16) (defBody s16) :=
  ⟨⟨rfl, rfl, rfl, by decide +kernel, rfl, by decide +kernel, by decide +kernel⟩, by decide +kernel, rfl, by decide +kernel⟩
abbrev s17 : Stmt := top 27
theorem ok17 : FdOk S ["sack", "wide", "led"] f17 (defScope s17) (defBody s17) :=
  ⟨⟨rfl, rfl, rfl, by decide +kernel, rfl, by decide +kernel, by decide +kernel⟩, by decide +kernel, rfl, by decide +kernel⟩
abbrev s18 : Stmt := top 28
theorem ok18 : FdOk S ["sack", "wide", "deep", "led"] f18 (defScope s18) (defBody s18) :=
  ⟨⟨rfl, rfl, rfl, by decide +kernel, rfl, by decide +kernel, by decide +kernel⟩, by decide +kernel, rfl, by decide +kernel⟩
abbrev s19 : Stmt := top 29
theorem ok19 : FdOk S ["sack"] f19 (defScope s19) (defBody s19) :=
  ⟨⟨rfl, rfl, rfl, by decide +kernel, rfl, by decide +kernel, by decide +kernel⟩, by decide +kernel, rfl, by decide +kernel⟩
abbrev s20 : Stmt := top 30
theorem ok20 : FdOk S ["expr", "record", "elder"] f20 (defScope s20) (defBody s20) :=
  ⟨⟨rfl, rfl, rfl, by decide +kernel, rfl, by decide +kernel, by decide +kernel⟩, by decide +kernel, rfl, by decide +kernel⟩
abbrev s21 : Stmt := top 31
theorem ok21 : FdOk S ["expr", "leaf"] f21 (defScope s21) (defBody s21) :=
  ⟨⟨rfl, rfl, rfl, by decide +kernel, rfl, by decide +kernel, by decide +kernel⟩, by decide +kernel, rfl, by decide +kernel⟩
abbrev s22 : Stmt := top 32
theorem ok22 : FdOk S ["expr", "leaf", "other"] f22 (defScope s22) (defBody s22) :=
  ⟨⟨rfl, rfl, rfl, by decide +kernel, rfl, by decide +kernel, by decide +kernel⟩, by decide +kernel, rfl, by decide +kernel⟩
abbrev s23 : Stmt := top 33
theorem ok23 : FdOk S ["expr", "order"] f23 (defScope s23) (defBody s23) :=
  ⟨⟨rfl, rfl, rfl, by decide +kernel, rfl, by decide +kernel, by decide +kernel⟩, by decide +kernel, rfl, by decide +kernel⟩
abbrev s24 : Stmt := top 34
theorem ok24 : FdOk S ["expr", "words"] f24 (defScope s24) (defBody s24) :=
  ⟨⟨rfl, rfl, rfl, by decide +kernel, rfl, by decide +kernel, by decide +kernel⟩, by decide +kernel, rfl, by decide +kernel⟩
abbrev s25 : Stmt := top 35
theorem ok25 : FdOk S ["expr", "other", "record", "elder"] f25 (defScope s25) (defBody s25) :=
  ⟨⟨rfl, rfl, rfl, by decide +kernel, rfl, by decide +kernel, by decide +kernel⟩, by decide +kernel, rfl, by decide +kernel⟩
abbrev s26 : Stmt := top 36
theorem ok26 : FdOk S ["sack", "expr", "record", "elder"] f26 (defScope s26) (defBody s26) :=
  ⟨⟨rfl, rfl, rfl, by decide +kernel, rfl, by decide +kernel, by decide +kernel⟩, by decide +kernel, rfl, by decide +kernel⟩
abbrev s27 : Stmt := top 37
theorem ok27 : FdOk S ["script"] f27 (defScope s27) (defBody s27) :=
  ⟨⟨rfl, rfl, rfl, by decide +kernel, rfl, by decide +kernel, by decide +kernel⟩, by decide +kernel, rfl, by decide +kernel⟩
def dd : List He.DefD := [⟨("is_whole", none), "is_whole", "is_whole", defArgs s0, defBody s0, defScope s0, [], []⟩, ⟨("is_between", none), "is_between", "is_between", defArgs s1, defBody s1, defScope s1, [], []⟩, ⟨("need_between", none), "need_between", "need_between", defArgs s2, defBody s2, defScope s2, [], []⟩, ⟨("is_word", none), "is_word", "is_word", defArgs s3, defBody s3, defScope s3, [], []⟩, ⟨("plus_by", none), "plus_by", "plus_by", defArgs s4, defBody s4, defScope s4, [], []⟩, ⟨("minus_by", none), "minus_by", "minus_by", defArgs s5, defBody s5, defScope s5, [], []⟩, ⟨("times_by", none), "times_by", "times_by", defArgs s6, defBody s6, defScope s6, [], []⟩, ⟨("over_by", none), "over_by", "over_by", defArgs s7, defBody s7, defScope s7, [], []⟩, ⟨("rest_by", none), "rest_by", "rest_by", defArgs s8, defBody s8, defScope s8, [], []⟩, ⟨("less_by", none), "less_by", "less_by", defArgs s9, defBody s9, defScope s9, [], []⟩, ⟨("same_by", none), "same_by", "same_by", defArgs s10, defBody s10, defScope s10, [], []⟩, ⟨("is_expr_by", none), "is_expr_by", "is_expr_by", defArgs s11, defBody s11, defScope s11, [], []⟩, ⟨("is_expr", none), "is_expr", "is_expr", defArgs s12, defBody s12, defScope s12, [], [("carried", .bl false)]⟩, ⟨("worth_in", none), "worth_in", "worth_in", defArgs s13, defBody s13, defScope s13, [], []⟩, ⟨("worth", none), "worth", "worth", defArgs s14, defBody s14, defScope s14, [], [("was", .int 0)]⟩, ⟨("_law_sack", none), "_law_sack", "_law_sack", defArgs s15, defBody s15, defScope s15, [], []⟩, ⟨("_law_draw", none), "_law_draw", "_law_draw", defArgs s16, defBody s16, defScope s16, [], []⟩, ⟨("_law_leaf", none), "_law_leaf", "_law_leaf", defArgs s17, defBody s17, defScope s17, [], []⟩, ⟨("_law_expr", none), "_law_expr", "_law_expr", defArgs s18, defBody s18, defScope s18, [], []⟩, ⟨("_law_word", none), "_law_word", "_law_word", defArgs s19, defBody s19, defScope s19, [], []⟩, ⟨("_law_met", none), "_law_met", "_law_met", defArgs s20, defBody s20, defScope s20, [], []⟩, ⟨("_law_has", none), "_law_has", "_law_has", defArgs s21, defBody s21, defScope s21, [], []⟩, ⟨("_law_put", none), "_law_put", "_law_put", defArgs s22, defBody s22, defScope s22, [], []⟩, ⟨("_law_turned", none), "_law_turned", "_law_turned", defArgs s23, defBody s23, defScope s23, [], []⟩, ⟨("_law_bare", none), "_law_bare", "_law_bare", defArgs s24, defBody s24, defScope s24, [], []⟩, ⟨("_law_put_right", none), "_law_put_right", "_law_put_right", defArgs s25, defBody s25, defScope s25, [], []⟩, ⟨("_law_others_right", none), "_law_others_right", "_law_others_right", defArgs s26, defBody s26, defScope s26, [], []⟩, ⟨("law", none), "law", "law", defArgs s27, defBody s27, defScope s27, [], []⟩, ⟨("Falls", some "__init__"), "__init__", "Falls.__init__", defArgs sx0, defBody sx0, defScope sx0, [], []⟩]
def faC : List He.Fa := [.int "GREATEST" 1000000000, .int "MOST_COLUMNS" 9, .int "MOST_OPS" 4]
def fa : List He.Fa := (bnames.map He.Fa.free) ++ faC ++ [.glo "is_whole", .glo "is_between", .glo "need_between", .glo "is_word", .glo "plus_by", .glo "minus_by", .glo "times_by", .glo "over_by", .glo "rest_by", .glo "less_by", .glo "same_by", .glo "is_expr_by", .glo "is_expr", .glo "worth_in", .glo "worth", .glo "_law_sack", .glo "_law_draw", .glo "_law_leaf", .glo "_law_expr", .glo "_law_word", .glo "_law_met", .glo "_law_has", .glo "_law_put", .glo "_law_turned", .glo "_law_bare", .glo "_law_put_right", .glo "_law_others_right", .glo "law", .glo "OPS"]
section
variable {P : Program} {w : World} {K : PySem.W.Frag} {h : Heap} {mg : Str → Option Value}
theorem fnAt (X : K.In h) (G : h.Ns mainGlobals mg) (c : He.SaysD fa dd K) : ∀ (g : Nat) (f : Fd), T[g]? = some f → ∃ (a : Addr) (fd : FuncData) (ps : List Str) (qual : Str) (params : Arguments) (body : List Stmt) (scope : Scope) (kws : List (Str × V)),
    mg f.name = some (.ref a) ∧ FunD K f.name qual params body scope [] kws a fd ∧ BindAll K fd ps f.ps f.kw ∧ FdOk S ps f scope body ∧ (f.lam = true → qual = "law" ∧ f.name = "law") := by
  have glo : ∀ x : Str, fa.any (fun f => isGlo x f) = true → mg x = some (.ref (He.ga K x)) := fun x hx => says_glo X G c hx
  intro g f hg
  match g, f, hg with
  | 0, _, rfl =>
    obtain ⟨fd, F⟩ := c.def_ 0 rfl
    exact ⟨_, fd, ["thing"], "is_whole", defArgs s0, defBody s0, defScope s0, _, glo "is_whole" (by decide +kernel), F, .of (F.bindsN (fun _ _ _ _ _ _ us hl => match us, hl with | [_], _ => rfl)), ok0, fun h => by cases h⟩
  | 1, _, rfl =>
    obtain ⟨fd, F⟩ := c.def_ 1 rfl
    exact ⟨_, fd, ["thing", "low", "high"], "is_between", defArgs s1, defBody s1, defScope s1, _, glo "is_between" (by decide +kernel), F, .of (F.bindsN (fun _ _ _ _ _ _ us hl => match us, hl with | [_, _, _], _ => rfl)), ok1, fun h => by cases h⟩
  | 2, _, rfl =>
    obtain ⟨fd, F⟩ := c.def_ 2 rfl
    exact ⟨_, fd, ["thing", "low", "high"], "need_between", defArgs s2, defBody s2, defScope s2, _, glo "need_between" (by decide +kernel), F, .of (F.bindsN (fun _ _ _ _ _ _ us hl => match us, hl with | [_, _, _], _ => rfl)), ok2, fun h => by cases h⟩
  | 3, _, rfl =>
    obtain ⟨fd, F⟩ := c.def_ 3 rfl
    exact ⟨_, fd, ["thing"], "is_word", defArgs s3, defBody s3, defScope s3, _, glo "is_word" (by decide +kernel), F, .of (F.bindsN (fun _ _ _ _ _ _ us hl => match us, hl with | [_], _ => rfl)), ok3, fun h => by cases h⟩
  | 4, _, rfl =>
    obtain ⟨fd, F⟩ := c.def_ 4 rfl
    exact ⟨_, fd, ["one", "other"], "plus_by", defArgs s4, defBody s4, defScope s4, _, glo "plus_by" (by decide +kernel), F, .of (F.bindsN (fun _ _ _ _ _ _ us hl => match us, hl with | [_, _], _ => rfl)), ok4, fun h => by cases h⟩
  | 5, _, rfl =>
    obtain ⟨fd, F⟩ := c.def_ 5 rfl
    exact ⟨_, fd, ["one", "other"], "minus_by", defArgs s5, defBody s5, defScope s5, _, glo "minus_by" (by decide +kernel), F, .of (F.bindsN (fun _ _ _ _ _ _ us hl => match us, hl with | [_, _], _ => rfl)), ok5, fun h => by cases h⟩
  | 6, _, rfl =>
    obtain ⟨fd, F⟩ := c.def_ 6 rfl
    exact ⟨_, fd, ["one", "other"], "times_by", defArgs s6, defBody s6, defScope s6, _, glo "times_by" (by decide +kernel), F, .of (F.bindsN (fun _ _ _ _ _ _ us hl => match us, hl with | [_, _], _ => rfl)), ok6, fun h => by cases h⟩
  | 7, _, rfl =>
    obtain ⟨fd, F⟩ := c.def_ 7 rfl
    exact ⟨_, fd, ["one", "other"], "over_by", defArgs s7, defBody s7, defScope s7, _, glo "over_by" (by decide +kernel), F, .of (F.bindsN (fun _ _ _ _ _ _ us hl => match us, hl with | [_, _], _ => rfl)), ok7, fun h => by cases h⟩
  | 8, _, rfl =>
    obtain ⟨fd, F⟩ := c.def_ 8 rfl
    exact ⟨_, fd, ["one", "other"], "rest_by", defArgs s8, defBody s8, defScope s8, _, glo "rest_by" (by decide +kernel), F, .of (F.bindsN (fun _ _ _ _ _ _ us hl => match us, hl with | [_, _], _ => rfl)), ok8, fun h => by cases h⟩
  | 9, _, rfl =>
    obtain ⟨fd, F⟩ := c.def_ 9 rfl
    exact ⟨_, fd, ["one", "other"], "less_by", defArgs s9, defBody s9, defScope s9, _, glo "less_by" (by decide +kernel), F, .of (F.bindsN (fun _ _ _ _ _ _ us hl => match us, hl with | [_, _], _ => rfl)), ok9, fun h => by cases h⟩
  | 10, _, rfl =>
    obtain ⟨fd, F⟩ := c.def_ 10 rfl
    exact ⟨_, fd, ["one", "other"], "same_by", defArgs s10, defBody s10, defScope s10, _, glo "same_by" (by decide +kernel), F, .of (F.bindsN (fun _ _ _ _ _ _ us hl => match us, hl with | [_, _], _ => rfl)), ok10, fun h => by cases h⟩
  | 11, _, rfl =>
    obtain ⟨fd, F⟩ := c.def_ 11 rfl
    exact ⟨_, fd, ["thing", "width", "carried", "left"], "is_expr_by", defArgs s11, defBody s11, defScope s11, _, glo "is_expr_by" (by decide +kernel), F, .of (F.bindsN (fun _ _ _ _ _ _ us hl => match us, hl with | [_, _, _, _], _ => rfl)), ok11, fun h => by cases h⟩
  | 12, _, rfl =>
    obtain ⟨fd, F⟩ := c.def_ 12 rfl
    exact ⟨_, fd, ["thing", "width", "carried"], "is_expr", defArgs s12, defBody s12, defScope s12, _, glo "is_expr" (by decide +kernel), F, bindAll_kw (ps := ["thing", "width", "carried"]) F (by simp [He.DefD.kws]) rfl (fun _ _ => (.cons (.bl _) .nil)) 2 rfl (fun _ _ _ _ _ _ us ks h1 h2 => match us, ks, h1, h2 with | [_, _], [_], _, _ => ⟨_, _, _, _, _, _, rfl, rfl, rfl⟩) (fun _ _ _ _ _ _ us ks h1 h2 => match us, ks, h1, h2 with | [_, _], [_], _, _ => rfl), ok12, fun h => by cases h⟩
  | 13, _, rfl =>
    obtain ⟨fd, F⟩ := c.def_ 13 rfl
    exact ⟨_, fd, ["expr", "record", "was"], "worth_in", defArgs s13, defBody s13, defScope s13, _, glo "worth_in" (by decide +kernel), F, .of (F.bindsN (fun _ _ _ _ _ _ us hl => match us, hl with | [_, _, _], _ => rfl)), ok13, fun h => by cases h⟩
  | 14, _, rfl =>
    obtain ⟨fd, F⟩ := c.def_ 14 rfl
    exact ⟨_, fd, ["expr", "record", "was"], "worth", defArgs s14, defBody s14, defScope s14, _, glo "worth" (by decide +kernel), F, bindAll_kw (ps := ["expr", "record", "was"]) F (by simp [He.DefD.kws]) rfl (fun _ _ => (.cons (.int _) .nil)) 2 rfl (fun _ _ _ _ _ _ us ks h1 h2 => match us, ks, h1, h2 with | [_, _], [_], _, _ => ⟨_, _, _, _, _, _, rfl, rfl, rfl⟩) (fun _ _ _ _ _ _ us ks h1 h2 => match us, ks, h1, h2 with | [_, _], [_], _, _ => rfl), ok14, fun h => by cases h⟩
  | 15, _, rfl =>
    obtain ⟨fd, F⟩ := c.def_ 15 rfl
    exact ⟨_, fd, ["script", "at"], "_law_sack", defArgs s15, defBody s15, defScope s15, _, glo "_law_sack" (by decide +kernel), F, .of (F.bindsN (fun _ _ _ _ _ _ us hl => match us, hl with | [_, _], _ => rfl)), ok15, fun h => by cases h⟩
  | 16, _, rfl =>
    obtain ⟨fd, F⟩ := c.def_ 16 rfl
    exact ⟨_, fd, ["sack", "many"], "_law_draw", defArgs s16, defBody s16, defScope s16, _, glo "_law_draw" (by decide +kernel), F, .of (F.bindsN (fun _ _ _ _ _ _ us hl => match us, hl with | [_, _], _ => rfl)), ok16, fun h => by cases h⟩
  | 17, _, rfl =>
    obtain ⟨fd, F⟩ := c.def_ 17 rfl
    exact ⟨_, fd, ["sack", "wide", "led"], "_law_leaf", defArgs s17, defBody s17, defScope s17, _, glo "_law_leaf" (by decide +kernel), F, .of (F.bindsN (fun _ _ _ _ _ _ us hl => match us, hl with | [_, _, _], _ => rfl)), ok17, fun h => by cases h⟩
  | 18, _, rfl =>
    obtain ⟨fd, F⟩ := c.def_ 18 rfl
    exact ⟨_, fd, ["sack", "wide", "deep", "led"], "_law_expr", defArgs s18, defBody s18, defScope s18, _, glo "_law_expr" (by decide +kernel), F, .of (F.bindsN (fun _ _ _ _ _ _ us hl => match us, hl with | [_, _, _, _], _ => rfl)), ok18, fun h => by cases h⟩
  | 19, _, rfl =>
    obtain ⟨fd, F⟩ := c.def_ 19 rfl
    exact ⟨_, fd, ["sack"], "_law_word", defArgs s19, defBody s19, defScope s19, _, glo "_law_word" (by decide +kernel), F, .of (F.bindsN (fun _ _ _ _ _ _ us hl => match us, hl with | [_], _ => rfl)), ok19, fun h => by cases h⟩
  | 20, _, rfl =>
    obtain ⟨fd, F⟩ := c.def_ 20 rfl
    exact ⟨_, fd, ["expr", "record", "elder"], "_law_met", defArgs s20, defBody s20, defScope s20, _, glo "_law_met" (by decide +kernel), F, .of (F.bindsN (fun _ _ _ _ _ _ us hl => match us, hl with | [_, _, _], _ => rfl)), ok20, fun h => by cases h⟩
  | 21, _, rfl =>
    obtain ⟨fd, F⟩ := c.def_ 21 rfl
    exact ⟨_, fd, ["expr", "leaf"], "_law_has", defArgs s21, defBody s21, defScope s21, _, glo "_law_has" (by decide +kernel), F, .of (F.bindsN (fun _ _ _ _ _ _ us hl => match us, hl with | [_, _], _ => rfl)), ok21, fun h => by cases h⟩
  | 22, _, rfl =>
    obtain ⟨fd, F⟩ := c.def_ 22 rfl
    exact ⟨_, fd, ["expr", "leaf", "other"], "_law_put", defArgs s22, defBody s22, defScope s22, _, glo "_law_put" (by decide +kernel), F, .of (F.bindsN (fun _ _ _ _ _ _ us hl => match us, hl with | [_, _, _], _ => rfl)), ok22, fun h => by cases h⟩
  | 23, _, rfl =>
    obtain ⟨fd, F⟩ := c.def_ 23 rfl
    exact ⟨_, fd, ["expr", "order"], "_law_turned", defArgs s23, defBody s23, defScope s23, _, glo "_law_turned" (by decide +kernel), F, .of (F.bindsN (fun _ _ _ _ _ _ us hl => match us, hl with | [_, _], _ => rfl)), ok23, fun h => by cases h⟩
  | 24, _, rfl =>
    obtain ⟨fd, F⟩ := c.def_ 24 rfl
    exact ⟨_, fd, ["expr", "words"], "_law_bare", defArgs s24, defBody s24, defScope s24, _, glo "_law_bare" (by decide +kernel), F, .of (F.bindsN (fun _ _ _ _ _ _ us hl => match us, hl with | [_, _], _ => rfl)), ok24, fun h => by cases h⟩
  | 25, _, rfl =>
    obtain ⟨fd, F⟩ := c.def_ 25 rfl
    exact ⟨_, fd, ["expr", "other", "record", "elder"], "_law_put_right", defArgs s25, defBody s25, defScope s25, _, glo "_law_put_right" (by decide +kernel), F, .of (F.bindsN (fun _ _ _ _ _ _ us hl => match us, hl with | [_, _, _, _], _ => rfl)), ok25, fun h => by cases h⟩
  | 26, _, rfl =>
    obtain ⟨fd, F⟩ := c.def_ 26 rfl
    exact ⟨_, fd, ["sack", "expr", "record", "elder"], "_law_others_right", defArgs s26, defBody s26, defScope s26, _, glo "_law_others_right" (by decide +kernel), F, .of (F.bindsN (fun _ _ _ _ _ _ us hl => match us, hl with | [_, _, _, _], _ => rfl)), ok26, fun h => by cases h⟩
  | 27, _, rfl =>
    obtain ⟨fd, F⟩ := c.def_ 27 rfl
    exact ⟨_, fd, ["script"], "law", defArgs s27, defBody s27, defScope s27, _, glo "law" (by decide +kernel), F, .of (F.bindsN (fun _ _ _ _ _ _ us hl => match us, hl with | [_], _ => rfl)), ok27, fun h => by cases h⟩
  | n + 28, _, hg => exact absurd hg (by rw [List.getElem?_eq_none (by show 28 ≤ n + 28; omega)]; simp)
end
abbrev R : PySem.W.OpenRow := PySem.W.OpenLaw.row PySem.Challenge.rw_rowhaul_k04_whole_one_in_the_place_of_an
def ts : List He.Tab := [(fun K => He.ga K "OPS", ["plus", "minus", "times", "over", "rest", "less", "same"]), (fun K => He.ga K "OPS", ["plus", "minus", "times", "over", "rest", "less", "same"])]
def tf : List He.Defn := []
abbrev hk : PySem.W.Hook := hookY 4 fa dd ts tf exB
def ob (s : PySem.W.SharedT) : He.AlX × Bool := (He.obsX 4 fa dd ts tf exB (HandSHeadRun.getT s), sysB (HandSHeadRun.getT s sysModules))
theorem ob_eq (s : PySem.W.SharedT) : ob s = hk.obs s.abs := obsY_eq (HandSHeadRun.getT_eq s)
theorem run (w : World) : HandSHeadRun.RunEq R (PySem.W.view R.prog [37]) hk ob 4000 [("__name__" : Str), ("RowsError" : Str), ("NoNumber" : Str), ("Falls" : Str), ("GREATEST" : Str), ("MOST_COLUMNS" : Str), ("MOST_OPS" : Str), ("OPS" : Str), ("is_whole" : Str), ("is_between" : Str), ("need_between" : Str), ("is_word" : Str), ("plus_by" : Str), ("minus_by" : Str), ("times_by" : Str), ("over_by" : Str), ("rest_by" : Str), ("less_by" : Str), ("same_by" : Str), ("is_expr_by" : Str), ("is_expr" : Str), ("worth_in" : Str), ("worth" : Str), ("_law_sack" : Str), ("_law_draw" : Str), ("_law_leaf" : Str), ("_law_expr" : Str), ("_law_word" : Str), ("_law_met" : Str), ("_law_has" : Str), ("_law_put" : Str), ("_law_turned" : Str), ("_law_bare" : Str), ("_law_put_right" : Str), ("_law_others_right" : Str)] w := by
  refine PySem.W.byRow2 "special-get-raises" (P := fun w => HandSHeadRun.RunEq R (PySem.W.view R.prog [37]) hk ob 4000 [("__name__" : Str), ("RowsError" : Str), ("NoNumber" : Str), ("Falls" : Str), ("GREATEST" : Str), ("MOST_COLUMNS" : Str), ("MOST_OPS" : Str), ("OPS" : Str), ("is_whole" : Str), ("is_between" : Str), ("need_between" : Str), ("is_word" : Str), ("plus_by" : Str), ("minus_by" : Str), ("times_by" : Str), ("over_by" : Str), ("rest_by" : Str), ("less_by" : Str), ("same_by" : Str), ("is_expr_by" : Str), ("is_expr" : Str), ("worth_in" : Str), ("worth" : Str), ("_law_sack" : Str), ("_law_draw" : Str), ("_law_leaf" : Str), ("_law_expr" : Str), ("_law_word" : Str), ("_law_met" : Str), ("_law_has" : Str), ("_law_put" : Str), ("_law_turned" : Str), ("_law_bare" : Str), ("_law_put_right" : Str), ("_law_others_right" : Str)] w) (fun w => ?_) (fun w => ?_) w
  all_goals
    intro os
    kernel_rfl

def depth : Nat := 40
theorem h0 : T[0]? = some wholeFd := rfl
theorem h1 : T[1]? = some (betweenFd 0) := rfl
theorem h2 : T[2]? = some (needFd 1) := rfl
theorem h3 : T[3]? = some (wordFd 1) := rfl
theorem hS : T[15]? = some sackFd := rfl
theorem hD : T[16]? = some drawFd := rfl
theorem hT : T.length ≤ 900 := by decide
/-! ### ops -/
inductive Op | plus | minus | times | over | rest | less | same
def Op.nm : Op → Str
  | .plus => "plus" | .minus => "minus" | .times => "times" | .over => "over" | .rest => "rest" | .less => "less" | .same => "same"
def Op.ix : Op → Nat
  | .plus => 4 | .minus => 5 | .times => 6 | .over => 7 | .rest => 8 | .less => 9 | .same => 10
def opD : Op → Int → Int → Option Int
  | .plus, x, y => some (x + y)
  | .minus, x, y => some (x - y)
  | .times, x, y => some (x * y)
  | .over, x, y => if y = 0 then none else some (x.fdiv y)
  | .rest, x, y => if y = 0 then none else some (x.fmod y)
  | .less, x, y => some (if x < y then 1 else 0)
  | .same, x, y => some (if x = y then 1 else 0)
theorem divOk_wd {y : Int} (h : Wd y) (h0 : ¬ y = 0) : divOk y = true := by
  unfold divOk
  obtain ⟨h1, h2⟩ := h
  have := log2_lt_of (n := y.natAbs) (k := 40) (by omega) (by omega)
  simp; omega
theorem mul_wd {x y : Int} (hx : Wd x) (hy : Wd y) : mulOk x y = true := by
  obtain ⟨h1, h2⟩ := hx
  obtain ⟨h3, h4⟩ := hy
  exact mOk (by omega) (by omega)
theorem r_op (n : Nat) (o : Op) (x y : Int) (m : Mem) (hm : LD m) (hx : Wd x) (hy : Wd y) : callN T (n + 4) o.ix [.d (.int x), .d (.int y)] m = match opD o x y with
    | some z => .ok (.d (.int z)) m
    | none => .err (falls "nought") m := by
  have b0 : ∀ b : Bool, (if b = true then (1 : Int) else 0) = if b = true then 1 else 0 := fun _ => rfl
  cases o with
  | plus => exact call_data (f := f4) hm rfl rfl rfl (by simp only [f4, List.map_cons, List.map_nil, List.length_cons, List.length_nil, List.replicate, List.cons_append, List.nil_append, List.getElem?_cons_zero, List.getElem?_cons_succ, List.set_cons_zero, List.set_cons_succ, Nat.reduceAdd, Nat.reduceSub, Nat.zero_add, denSs, denS, denE, denT, denTAnd, denTOr, denAnd, denOr, denEs, denO, denI, Res.bind, Res.bindN, rdd, rd, rds, dat, bol, mkL, dats, itsOf, setIx, isL, apIx, seqOf, setAll, bindT, bindTs, itsAll, p_int_n, p_int_b, p_int_i, p_int_s, p_int_l, p_int_t, p_int_d, p_bool_n, p_bool_b, p_bool_i, p_bool_s, p_bool_l, p_bool_t, p_bool_d, p_tuple_n, p_tuple_b, p_tuple_i, p_tuple_s, p_tuple_l, p_tuple_t, p_tuple_d, p_list_n, p_list_b, p_list_i, p_list_s, p_list_l, p_list_t, p_list_d, p_str_n, p_str_b, p_str_i, p_str_s, p_str_l, p_str_t, p_str_d, p_dict_n, p_dict_b, p_dict_i, p_dict_s, p_dict_l, p_dict_t, p_dict_d, Bool.true_or, Bool.or_true, Bool.false_or, Bool.or_false, Bool.true_and, Bool.and_true, Bool.false_and, Bool.and_false, Bool.not_true, Bool.not_false, o_len_l, o_len_t, o_abs, o_max, o_min, o_int, o_intb, o_tup_l, o_tup_t, o_list_l, o_list_t, o_all, o_any, o_divmod, o_max1, o_min1, o_sum1, o_str, o_strs, o_add, o_add_l, o_add_t, o_sub, o_mul, o_mul_l, o_mul_t, o_div, o_mod, o_pow, o_lt, o_le, o_gt, o_ge, o_eq, o_ne, o_nes, o_eqs, o_eqb, o_tn, o_tb, o_ti, o_tl, o_tt, o_ixl, o_ixt, o_sll, o_slt, if_true, if_false, decide_true, decide_false, retOf, Option.map_some, Bool.false_eq_true])
  | minus => exact call_data (f := f5) hm rfl rfl rfl (by simp only [f5, List.map_cons, List.map_nil, List.length_cons, List.length_nil, List.replicate, List.cons_append, List.nil_append, List.getElem?_cons_zero, List.getElem?_cons_succ, List.set_cons_zero, List.set_cons_succ, Nat.reduceAdd, Nat.reduceSub, Nat.zero_add, denSs, denS, denE, denT, denTAnd, denTOr, denAnd, denOr, denEs, denO, denI, Res.bind, Res.bindN, rdd, rd, rds, dat, bol, mkL, dats, itsOf, setIx, isL, apIx, seqOf, setAll, bindT, bindTs, itsAll, p_int_n, p_int_b, p_int_i, p_int_s, p_int_l, p_int_t, p_int_d, p_bool_n, p_bool_b, p_bool_i, p_bool_s, p_bool_l, p_bool_t, p_bool_d, p_tuple_n, p_tuple_b, p_tuple_i, p_tuple_s, p_tuple_l, p_tuple_t, p_tuple_d, p_list_n, p_list_b, p_list_i, p_list_s, p_list_l, p_list_t, p_list_d, p_str_n, p_str_b, p_str_i, p_str_s, p_str_l, p_str_t, p_str_d, p_dict_n, p_dict_b, p_dict_i, p_dict_s, p_dict_l, p_dict_t, p_dict_d, Bool.true_or, Bool.or_true, Bool.false_or, Bool.or_false, Bool.true_and, Bool.and_true, Bool.false_and, Bool.and_false, Bool.not_true, Bool.not_false, o_len_l, o_len_t, o_abs, o_max, o_min, o_int, o_intb, o_tup_l, o_tup_t, o_list_l, o_list_t, o_all, o_any, o_divmod, o_max1, o_min1, o_sum1, o_str, o_strs, o_add, o_add_l, o_add_t, o_sub, o_mul, o_mul_l, o_mul_t, o_div, o_mod, o_pow, o_lt, o_le, o_gt, o_ge, o_eq, o_ne, o_nes, o_eqs, o_eqb, o_tn, o_tb, o_ti, o_tl, o_tt, o_ixl, o_ixt, o_sll, o_slt, if_true, if_false, decide_true, decide_false, retOf, Option.map_some, Bool.false_eq_true])
  | times => exact call_data (f := f6) hm rfl rfl rfl (by simp only [f6, List.map_cons, List.map_nil, List.length_cons, List.length_nil, List.replicate, List.cons_append, List.nil_append, List.getElem?_cons_zero, List.getElem?_cons_succ, List.set_cons_zero, List.set_cons_succ, Nat.reduceAdd, Nat.reduceSub, Nat.zero_add, denSs, denS, denE, denT, denTAnd, denTOr, denAnd, denOr, denEs, denO, denI, Res.bind, Res.bindN, rdd, rd, rds, dat, bol, mkL, dats, itsOf, setIx, isL, apIx, seqOf, setAll, bindT, bindTs, itsAll, p_int_n, p_int_b, p_int_i, p_int_s, p_int_l, p_int_t, p_int_d, p_bool_n, p_bool_b, p_bool_i, p_bool_s, p_bool_l, p_bool_t, p_bool_d, p_tuple_n, p_tuple_b, p_tuple_i, p_tuple_s, p_tuple_l, p_tuple_t, p_tuple_d, p_list_n, p_list_b, p_list_i, p_list_s, p_list_l, p_list_t, p_list_d, p_str_n, p_str_b, p_str_i, p_str_s, p_str_l, p_str_t, p_str_d, p_dict_n, p_dict_b, p_dict_i, p_dict_s, p_dict_l, p_dict_t, p_dict_d, Bool.true_or, Bool.or_true, Bool.false_or, Bool.or_false, Bool.true_and, Bool.and_true, Bool.false_and, Bool.and_false, Bool.not_true, Bool.not_false, o_len_l, o_len_t, o_abs, o_max, o_min, o_int, o_intb, o_tup_l, o_tup_t, o_list_l, o_list_t, o_all, o_any, o_divmod, o_max1, o_min1, o_sum1, o_str, o_strs, o_add, o_add_l, o_add_t, o_sub, o_mul, o_mul_l, o_mul_t, o_div, o_mod, o_pow, o_lt, o_le, o_gt, o_ge, o_eq, o_ne, o_nes, o_eqs, o_eqb, o_tn, o_tb, o_ti, o_tl, o_tt, o_ixl, o_ixt, o_sll, o_slt, if_true, if_false, decide_true, decide_false, retOf, Option.map_some, Bool.false_eq_true, mul_wd hx hy])
  | over =>
    by_cases h : y = 0
    · simp only [opD, h, if_true]
      exact call_err (f := f7) rfl rfl (by simp only [f7, List.map_cons, List.map_nil, List.length_cons, List.length_nil, List.replicate, List.cons_append, List.nil_append, List.getElem?_cons_zero, List.getElem?_cons_succ, List.set_cons_zero, List.set_cons_succ, Nat.reduceAdd, Nat.reduceSub, Nat.zero_add, denSs, denS, denE, denT, denTAnd, denTOr, denAnd, denOr, denEs, denO, denI, Res.bind, Res.bindN, rdd, rd, rds, dat, bol, mkL, dats, itsOf, setIx, isL, apIx, seqOf, setAll, bindT, bindTs, itsAll, p_int_n, p_int_b, p_int_i, p_int_s, p_int_l, p_int_t, p_int_d, p_bool_n, p_bool_b, p_bool_i, p_bool_s, p_bool_l, p_bool_t, p_bool_d, p_tuple_n, p_tuple_b, p_tuple_i, p_tuple_s, p_tuple_l, p_tuple_t, p_tuple_d, p_list_n, p_list_b, p_list_i, p_list_s, p_list_l, p_list_t, p_list_d, p_str_n, p_str_b, p_str_i, p_str_s, p_str_l, p_str_t, p_str_d, p_dict_n, p_dict_b, p_dict_i, p_dict_s, p_dict_l, p_dict_t, p_dict_d, Bool.true_or, Bool.or_true, Bool.false_or, Bool.or_false, Bool.true_and, Bool.and_true, Bool.false_and, Bool.and_false, Bool.not_true, Bool.not_false, o_len_l, o_len_t, o_abs, o_max, o_min, o_int, o_intb, o_tup_l, o_tup_t, o_list_l, o_list_t, o_all, o_any, o_divmod, o_max1, o_min1, o_sum1, o_str, o_strs, o_add, o_add_l, o_add_t, o_sub, o_mul, o_mul_l, o_mul_t, o_div, o_mod, o_pow, o_lt, o_le, o_gt, o_ge, o_eq, o_ne, o_nes, o_eqs, o_eqb, o_tn, o_tb, o_ti, o_tl, o_tt, o_ixl, o_ixt, o_sll, o_slt, if_true, if_false, decide_true, decide_false, retOf, Option.map_some, Bool.false_eq_true, probe_run hT n m, BEq.rfl, falls])
    · have h' : (y == 0) = false := by simpa using h
      simp only [opD, h, if_false]
      exact call_data (f := f7) hm rfl rfl rfl (by simp only [f7, List.map_cons, List.map_nil, List.length_cons, List.length_nil, List.replicate, List.cons_append, List.nil_append, List.getElem?_cons_zero, List.getElem?_cons_succ, List.set_cons_zero, List.set_cons_succ, Nat.reduceAdd, Nat.reduceSub, Nat.zero_add, denSs, denS, denE, denT, denTAnd, denTOr, denAnd, denOr, denEs, denO, denI, Res.bind, Res.bindN, rdd, rd, rds, dat, bol, mkL, dats, itsOf, setIx, isL, apIx, seqOf, setAll, bindT, bindTs, itsAll, p_int_n, p_int_b, p_int_i, p_int_s, p_int_l, p_int_t, p_int_d, p_bool_n, p_bool_b, p_bool_i, p_bool_s, p_bool_l, p_bool_t, p_bool_d, p_tuple_n, p_tuple_b, p_tuple_i, p_tuple_s, p_tuple_l, p_tuple_t, p_tuple_d, p_list_n, p_list_b, p_list_i, p_list_s, p_list_l, p_list_t, p_list_d, p_str_n, p_str_b, p_str_i, p_str_s, p_str_l, p_str_t, p_str_d, p_dict_n, p_dict_b, p_dict_i, p_dict_s, p_dict_l, p_dict_t, p_dict_d, Bool.true_or, Bool.or_true, Bool.false_or, Bool.or_false, Bool.true_and, Bool.and_true, Bool.false_and, Bool.and_false, Bool.not_true, Bool.not_false, o_len_l, o_len_t, o_abs, o_max, o_min, o_int, o_intb, o_tup_l, o_tup_t, o_list_l, o_list_t, o_all, o_any, o_divmod, o_max1, o_min1, o_sum1, o_str, o_strs, o_add, o_add_l, o_add_t, o_sub, o_mul, o_mul_l, o_mul_t, o_div, o_mod, o_pow, o_lt, o_le, o_gt, o_ge, o_eq, o_ne, o_nes, o_eqs, o_eqb, o_tn, o_tb, o_ti, o_tl, o_tt, o_ixl, o_ixt, o_sll, o_slt, if_true, if_false, decide_true, decide_false, retOf, Option.map_some, Bool.false_eq_true, h', divOk_wd hy h])
  | rest =>
    by_cases h : y = 0
    · simp only [opD, h, if_true]
      exact call_err (f := f8) rfl rfl (by simp only [f8, List.map_cons, List.map_nil, List.length_cons, List.length_nil, List.replicate, List.cons_append, List.nil_append, List.getElem?_cons_zero, List.getElem?_cons_succ, List.set_cons_zero, List.set_cons_succ, Nat.reduceAdd, Nat.reduceSub, Nat.zero_add, denSs, denS, denE, denT, denTAnd, denTOr, denAnd, denOr, denEs, denO, denI, Res.bind, Res.bindN, rdd, rd, rds, dat, bol, mkL, dats, itsOf, setIx, isL, apIx, seqOf, setAll, bindT, bindTs, itsAll, p_int_n, p_int_b, p_int_i, p_int_s, p_int_l, p_int_t, p_int_d, p_bool_n, p_bool_b, p_bool_i, p_bool_s, p_bool_l, p_bool_t, p_bool_d, p_tuple_n, p_tuple_b, p_tuple_i, p_tuple_s, p_tuple_l, p_tuple_t, p_tuple_d, p_list_n, p_list_b, p_list_i, p_list_s, p_list_l, p_list_t, p_list_d, p_str_n, p_str_b, p_str_i, p_str_s, p_str_l, p_str_t, p_str_d, p_dict_n, p_dict_b, p_dict_i, p_dict_s, p_dict_l, p_dict_t, p_dict_d, Bool.true_or, Bool.or_true, Bool.false_or, Bool.or_false, Bool.true_and, Bool.and_true, Bool.false_and, Bool.and_false, Bool.not_true, Bool.not_false, o_len_l, o_len_t, o_abs, o_max, o_min, o_int, o_intb, o_tup_l, o_tup_t, o_list_l, o_list_t, o_all, o_any, o_divmod, o_max1, o_min1, o_sum1, o_str, o_strs, o_add, o_add_l, o_add_t, o_sub, o_mul, o_mul_l, o_mul_t, o_div, o_mod, o_pow, o_lt, o_le, o_gt, o_ge, o_eq, o_ne, o_nes, o_eqs, o_eqb, o_tn, o_tb, o_ti, o_tl, o_tt, o_ixl, o_ixt, o_sll, o_slt, if_true, if_false, decide_true, decide_false, retOf, Option.map_some, Bool.false_eq_true, probe_run hT n m, BEq.rfl, falls])
    · have h' : (y == 0) = false := by simpa using h
      simp only [opD, h, if_false]
      exact call_data (f := f8) hm rfl rfl rfl (by simp only [f8, List.map_cons, List.map_nil, List.length_cons, List.length_nil, List.replicate, List.cons_append, List.nil_append, List.getElem?_cons_zero, List.getElem?_cons_succ, List.set_cons_zero, List.set_cons_succ, Nat.reduceAdd, Nat.reduceSub, Nat.zero_add, denSs, denS, denE, denT, denTAnd, denTOr, denAnd, denOr, denEs, denO, denI, Res.bind, Res.bindN, rdd, rd, rds, dat, bol, mkL, dats, itsOf, setIx, isL, apIx, seqOf, setAll, bindT, bindTs, itsAll, p_int_n, p_int_b, p_int_i, p_int_s, p_int_l, p_int_t, p_int_d, p_bool_n, p_bool_b, p_bool_i, p_bool_s, p_bool_l, p_bool_t, p_bool_d, p_tuple_n, p_tuple_b, p_tuple_i, p_tuple_s, p_tuple_l, p_tuple_t, p_tuple_d, p_list_n, p_list_b, p_list_i, p_list_s, p_list_l, p_list_t, p_list_d, p_str_n, p_str_b, p_str_i, p_str_s, p_str_l, p_str_t, p_str_d, p_dict_n, p_dict_b, p_dict_i, p_dict_s, p_dict_l, p_dict_t, p_dict_d, Bool.true_or, Bool.or_true, Bool.false_or, Bool.or_false, Bool.true_and, Bool.and_true, Bool.false_and, Bool.and_false, Bool.not_true, Bool.not_false, o_len_l, o_len_t, o_abs, o_max, o_min, o_int, o_intb, o_tup_l, o_tup_t, o_list_l, o_list_t, o_all, o_any, o_divmod, o_max1, o_min1, o_sum1, o_str, o_strs, o_add, o_add_l, o_add_t, o_sub, o_mul, o_mul_l, o_mul_t, o_div, o_mod, o_pow, o_lt, o_le, o_gt, o_ge, o_eq, o_ne, o_nes, o_eqs, o_eqb, o_tn, o_tb, o_ti, o_tl, o_tt, o_ixl, o_ixt, o_sll, o_slt, if_true, if_false, decide_true, decide_false, retOf, Option.map_some, Bool.false_eq_true, h', h])
  | less => exact call_data (f := f9) hm rfl rfl rfl (by simp only [f9, List.map_cons, List.map_nil, List.length_cons, List.length_nil, List.replicate, List.cons_append, List.nil_append, List.getElem?_cons_zero, List.getElem?_cons_succ, List.set_cons_zero, List.set_cons_succ, Nat.reduceAdd, Nat.reduceSub, Nat.zero_add, denSs, denS, denE, denT, denTAnd, denTOr, denAnd, denOr, denEs, denO, denI, Res.bind, Res.bindN, rdd, rd, rds, dat, bol, mkL, dats, itsOf, setIx, isL, apIx, seqOf, setAll, bindT, bindTs, itsAll, p_int_n, p_int_b, p_int_i, p_int_s, p_int_l, p_int_t, p_int_d, p_bool_n, p_bool_b, p_bool_i, p_bool_s, p_bool_l, p_bool_t, p_bool_d, p_tuple_n, p_tuple_b, p_tuple_i, p_tuple_s, p_tuple_l, p_tuple_t, p_tuple_d, p_list_n, p_list_b, p_list_i, p_list_s, p_list_l, p_list_t, p_list_d, p_str_n, p_str_b, p_str_i, p_str_s, p_str_l, p_str_t, p_str_d, p_dict_n, p_dict_b, p_dict_i, p_dict_s, p_dict_l, p_dict_t, p_dict_d, Bool.true_or, Bool.or_true, Bool.false_or, Bool.or_false, Bool.true_and, Bool.and_true, Bool.false_and, Bool.and_false, Bool.not_true, Bool.not_false, o_len_l, o_len_t, o_abs, o_max, o_min, o_int, o_intb, o_tup_l, o_tup_t, o_list_l, o_list_t, o_all, o_any, o_divmod, o_max1, o_min1, o_sum1, o_str, o_strs, o_add, o_add_l, o_add_t, o_sub, o_mul, o_mul_l, o_mul_t, o_div, o_mod, o_pow, o_lt, o_le, o_gt, o_ge, o_eq, o_ne, o_nes, o_eqs, o_eqb, o_tn, o_tb, o_ti, o_tl, o_tt, o_ixl, o_ixt, o_sll, o_slt, if_true, if_false, decide_true, decide_false, retOf, Option.map_some, Bool.false_eq_true, decide_eq_true_eq])
  | same => exact call_data (f := f10) hm rfl rfl rfl (by simp only [f10, List.map_cons, List.map_nil, List.length_cons, List.length_nil, List.replicate, List.cons_append, List.nil_append, List.getElem?_cons_zero, List.getElem?_cons_succ, List.set_cons_zero, List.set_cons_succ, Nat.reduceAdd, Nat.reduceSub, Nat.zero_add, denSs, denS, denE, denT, denTAnd, denTOr, denAnd, denOr, denEs, denO, denI, Res.bind, Res.bindN, rdd, rd, rds, dat, bol, mkL, dats, itsOf, setIx, isL, apIx, seqOf, setAll, bindT, bindTs, itsAll, p_int_n, p_int_b, p_int_i, p_int_s, p_int_l, p_int_t, p_int_d, p_bool_n, p_bool_b, p_bool_i, p_bool_s, p_bool_l, p_bool_t, p_bool_d, p_tuple_n, p_tuple_b, p_tuple_i, p_tuple_s, p_tuple_l, p_tuple_t, p_tuple_d, p_list_n, p_list_b, p_list_i, p_list_s, p_list_l, p_list_t, p_list_d, p_str_n, p_str_b, p_str_i, p_str_s, p_str_l, p_str_t, p_str_d, p_dict_n, p_dict_b, p_dict_i, p_dict_s, p_dict_l, p_dict_t, p_dict_d, Bool.true_or, Bool.or_true, Bool.false_or, Bool.or_false, Bool.true_and, Bool.and_true, Bool.false_and, Bool.and_false, Bool.not_true, Bool.not_false, o_len_l, o_len_t, o_abs, o_max, o_min, o_int, o_intb, o_tup_l, o_tup_t, o_list_l, o_list_t, o_all, o_any, o_divmod, o_max1, o_min1, o_sum1, o_str, o_strs, o_add, o_add_l, o_add_t, o_sub, o_mul, o_mul_l, o_mul_t, o_div, o_mod, o_pow, o_lt, o_le, o_gt, o_ge, o_eq, o_ne, o_nes, o_eqs, o_eqb, o_tn, o_tb, o_ti, o_tl, o_tt, o_ixl, o_ixt, o_sll, o_slt, if_true, if_false, decide_true, decide_false, retOf, Option.map_some, Bool.false_eq_true, beq_iff_eq])
/-! ### expressions -/
inductive Ex
  | num (i : Int)
  | at_ (k : Nat)
  | was
  | op (o : Op) (a b : Ex)
inductive W
  | ok (i : Int)
  | fall (w : Str)
def Ex.P : Ex → PyData
  | .num i => .int i
  | .at_ k => .tuple [.str "at", .int k]
  | .was => .tuple [.str "was"]
  | .op o a b => .tuple [.str o.nm, a.P, b.P]
def fin (o : Op) (x y : Int) : W := match opD o x y with
  | none => .fall "nought"
  | some z => if Wd z then .ok z else .fall "great"
def Ex.val (r : List Int) (s : Int) : Ex → W
  | .num i => .ok i
  | .at_ k => .ok (r.getD k 0)
  | .was => .ok s
  | .op o a b => match a.val r s with
    | .fall w => .fall w
    | .ok x => match b.val r s with
      | .fall w => .fall w
      | .ok y => fin o x y
def Ex.Ok (n : Nat) : Ex → Prop
  | .num i => Wd i
  | .at_ k => k < n
  | .was => True
  | .op _ a b => a.Ok n ∧ b.Ok n
def Ex.dep : Ex → Nat
  | .op _ a b => max a.dep b.dep + 1
  | _ => 0
theorem fin_wd {o : Op} {x y z : Int} (h : fin o x y = .ok z) : Wd z := by
  unfold fin at h
  split at h
  · cases h
  · split at h
    · rename_i q
      cases h
      exact q
    · cases h
theorem val_wd {r : List Int} {s : Int} (hr : ∀ i ∈ r, Wd i) (hs : Wd s) : ∀ (e : Ex) {z : Int}, e.Ok r.length → e.val r s = .ok z → Wd z
  | .num i, z, h, e => by cases e; exact h
  | .at_ k, z, h, e => by cases e; exact getD_wd hr h
  | .was, z, _, e => by cases e; exact hs
  | .op o a b, z, h, e => by
    simp only [Ex.val] at e
    split at e
    · cases e
    · split at e
      · cases e
      · exact fin_wd e
theorem op_step {call : CallT} {i j : Nat} {x : Str} {tb : List (Str × Nat)} {w : CE} {es : CEs} {r : CSs} {env : Sl} {m m1 m2 m3 : Mem} {z : Str} {g : Nat} {vs : List Vl} {u : Vl} {R : Res (Fl × Sl)} (h1 : denE call w env m = .ok (.d (.str z)) m1) (h2 : tb.lookup z = some g)
    (h3 : denEs call es (env.set i none) m1 = .ok vs m2) (h4 : call g vs m2 = .ok u m3) (h5 : denSs call r ((env.set i none).set j (some u)) m3 = R) : denSs call (.op i x tb w j es r) env m = R := by
  simp only [denSs, h1, Res.bind, h2, h3, h4]
  exact h5
theorem op_err {call : CallT} {i j : Nat} {x : Str} {tb : List (Str × Nat)} {w : CE} {es : CEs} {r : CSs} {env : Sl} {m m1 m2 m3 : Mem} {z : Str} {g : Nat} {vs : List Vl} {e : Exn} (h1 : denE call w env m = .ok (.d (.str z)) m1) (h2 : tb.lookup z = some g)
    (h3 : denEs call es (env.set i none) m1 = .ok vs m2) (h4 : call g vs m2 = .err e m3) : denSs call (.op i x tb w j es r) env m = .err e m3 := by
  simp only [denSs, h1, Res.bind, h2, h3, h4]
/-! ### a comprehension over two -/
section
variable {call : CallT} {v : Nat} {x : List Str} {s : CI} {e : CE} {env : Sl} {m : Mem} {a b : PyData}
theorem lc2_e1 {z : Exn} {m' : Mem} (h : denI call s env m = .ok ⟨[a, b], []⟩ m) (h1 : denE call e (env.set v (some (.d a))) (m ++ [.lst []]) = .err z m') : denE call (.lc false (.nm v) x s .nil e) env m = .err z m' := by
  simp only [denE, h, Res.bind]
  unfold lcLoop
  simp only [Ev.same, if_true, bindT, denTAnd, Res.bind, h1]
theorem one_lt : (0 < sizeLine) = True := by unfold sizeLine; exact eq_true (by omega)
theorem two_lt : (1 < sizeLine) = True := by unfold sizeLine; exact eq_true (by omega)
theorem lc2_e2 {z : Exn} {m' : Mem} {a' : PyData} (h : denI call s env m = .ok ⟨[a, b], []⟩ m) (h1 : denE call e (env.set v (some (.d a))) (m ++ [.lst []]) = .ok (.d a') (m ++ [.lst []])) (h2 : denE call e (env.set v (some (.d b))) (m ++ [.lst [a']]) = .err z m') :
    denE call (.lc false (.nm v) x s .nil e) env m = .err z m' := by
  simp only [denE, h, Res.bind]
  unfold lcLoop
  simp only [Ev.same, if_true, bindT, denTAnd, Res.bind, h1, get_last, set_last, List.length_nil, one_lt, List.nil_append]
  unfold lcLoop
  simp only [Ev.same, if_true, bindT, denTAnd, Res.bind, h2]
theorem lc2_ok {a' b' : PyData} (hm : LD m) (h : denI call s env m = .ok ⟨[a, b], []⟩ m) (h1 : denE call e (env.set v (some (.d a))) (m ++ [.lst []]) = .ok (.d a') (m ++ [.lst []])) (h2 : denE call e (env.set v (some (.d b))) (m ++ [.lst [a']]) = .ok (.d b') (m ++ [.lst [a']])) :
    denE call (.lc false (.nm v) x s .nil e) env m = .ok (.d (.list [a', b'])) m := by
  simp only [denE, h, Res.bind]
  unfold lcLoop
  simp only [Ev.same, if_true, bindT, denTAnd, Res.bind, h1, get_last, set_last, List.length_nil, one_lt, List.nil_append]
  unfold lcLoop
  simp only [Ev.same, if_true, bindT, denTAnd, Res.bind, h2, get_last, set_last, List.length_cons, List.length_nil, Nat.zero_add, two_lt, List.cons_append, List.nil_append]
  unfold lcLoop
  simp only [Ev.same, if_true]
  exact close_lst hm _
end
theorem nm_at (o : Op) : (o.nm == ("at" : Str)) = false := by cases o <;> decide +kernel
theorem nm_was (o : Op) : (o.nm == ("was" : Str)) = false := by cases o <;> decide +kernel
theorem nm_ix (o : Op) : List.lookup o.nm [(("plus" : Str), 4), ("minus", 5), ("times", 6), ("over", 7), ("rest", 8), ("less", 9), ("same", 10)] = some o.ix := by cases o <;> decide +kernel
theorem at_at : (("at" : Str) == ("at" : Str)) = true := by decide +kernel
theorem was_at : (("was" : Str) == ("at" : Str)) = false := by decide +kernel
theorem was_was : (("was" : Str) == ("was" : Str)) = true := by decide +kernel
def elt : CE := .call 13 "worth_in" (.cons (.var 9) (.cons (.var 1) (.cons (.var 2) .nil)))
theorem elt_run {call : CallT} {e0 : Option Vl} {r s x : PyData} {v3 v4 v5 v6 v7 v8 v9 : Option Vl} {m : Mem} : denE call elt ([e0, some (.d r), some (.d s), v3, v4, v5, v6, v7, v8, v9].set 9 (some (.d x))) m = call 13 [.d x, .d r, .d s] m := by
  simp only [elt, List.map_cons, List.map_nil, List.length_cons, List.length_nil, List.replicate, List.cons_append, List.nil_append, List.getElem?_cons_zero, List.getElem?_cons_succ, List.set_cons_zero, List.set_cons_succ, Nat.reduceAdd, Nat.reduceSub, Nat.zero_add, denSs, denS, denE, denT, denTAnd, denTOr, denAnd, denOr, denEs, denO, denI, Res.bind, Res.bindN, rdd, rd, rds, dat, bol, mkL, dats, itsOf, setIx, isL, apIx, seqOf, setAll, bindT, bindTs, itsAll]
/-- worth_in -/
theorem r_in (n : Nat) (r : List Int) (s : Int) (hr : ∀ i ∈ r, Wd i) (hs : Wd s) : ∀ (e : Ex) (d : Nat) (m : Mem), LD m → e.dep ≤ d → e.Ok r.length →
    match e.val r s with
    | .ok z => callN T (n + d + 5) 13 [.d e.P, .d (.tuple (r.map .int)), .d (.int s)] m = .ok (.d (.int z)) m
    | .fall w => ∃ t, LD t ∧ callN T (n + d + 5) 13 [.d e.P, .d (.tuple (r.map .int)), .d (.int s)] m = .err (falls w) (m ++ t)
  | .num i, d, m, hm, _, _ => by
    refine call_data (f := f13) hm rfl rfl rfl ?_
    simp only [f13, Ex.P, List.map_cons, List.map_nil, List.length_cons, List.length_nil, List.replicate, List.cons_append, List.nil_append, List.getElem?_cons_zero, List.getElem?_cons_succ, List.set_cons_zero, List.set_cons_succ, Nat.reduceAdd, Nat.reduceSub, Nat.zero_add, denSs, denS, denE, denT, denTAnd, denTOr, denAnd, denOr, denEs, denO, denI, Res.bind, Res.bindN, rdd, rd, rds, dat, bol, mkL, dats, itsOf, setIx, isL, apIx, seqOf, setAll, bindT, bindTs, itsAll, p_int_n, p_int_b, p_int_i, p_int_s, p_int_l, p_int_t, p_int_d, p_bool_n, p_bool_b, p_bool_i, p_bool_s, p_bool_l, p_bool_t, p_bool_d, p_tuple_n, p_tuple_b, p_tuple_i, p_tuple_s, p_tuple_l, p_tuple_t, p_tuple_d, p_list_n, p_list_b, p_list_i, p_list_s, p_list_l, p_list_t, p_list_d, p_str_n, p_str_b, p_str_i, p_str_s, p_str_l, p_str_t, p_str_d, p_dict_n, p_dict_b, p_dict_i, p_dict_s, p_dict_l, p_dict_t, p_dict_d, Bool.true_or, Bool.or_true, Bool.false_or, Bool.or_false, Bool.true_and, Bool.and_true, Bool.false_and, Bool.and_false, Bool.not_true, Bool.not_false, o_len_l, o_len_t, o_abs, o_max, o_min, o_int, o_intb, o_tup_l, o_tup_t, o_list_l, o_list_t, o_all, o_any, o_divmod, o_max1, o_min1, o_sum1, o_str, o_strs, o_add, o_add_l, o_add_t, o_sub, o_mul, o_mul_l, o_mul_t, o_div, o_mod, o_pow, o_lt, o_le, o_gt, o_ge, o_eq, o_ne, o_nes, o_eqs, o_eqb, o_tn, o_tb, o_ti, o_tl, o_tt, o_ixl, o_ixt, o_sll, o_slt, if_true, if_false, decide_true, decide_false, retOf, Option.map_some, Bool.false_eq_true]
  | .at_ k, d, m, hm, _, hk => by
    have hk : k < r.length := hk
    refine call_data (f := f13) hm rfl rfl rfl ?_
    simp only [f13, Ex.P, List.map_cons, List.map_nil, List.length_cons, List.length_nil, List.replicate, List.cons_append, List.nil_append, List.getElem?_cons_zero, List.getElem?_cons_succ, List.set_cons_zero, List.set_cons_succ, Nat.reduceAdd, Nat.reduceSub, Nat.zero_add, denSs, denS, denE, denT, denTAnd, denTOr, denAnd, denOr, denEs, denO, denI, Res.bind, Res.bindN, rdd, rd, rds, dat, bol, mkL, dats, itsOf, setIx, isL, apIx, seqOf, setAll, bindT, bindTs, itsAll, p_int_n, p_int_b, p_int_i, p_int_s, p_int_l, p_int_t, p_int_d, p_bool_n, p_bool_b, p_bool_i, p_bool_s, p_bool_l, p_bool_t, p_bool_d, p_tuple_n, p_tuple_b, p_tuple_i, p_tuple_s, p_tuple_l, p_tuple_t, p_tuple_d, p_list_n, p_list_b, p_list_i, p_list_s, p_list_l, p_list_t, p_list_d, p_str_n, p_str_b, p_str_i, p_str_s, p_str_l, p_str_t, p_str_d, p_dict_n, p_dict_b, p_dict_i, p_dict_s, p_dict_l, p_dict_t, p_dict_d, Bool.true_or, Bool.or_true, Bool.false_or, Bool.or_false, Bool.true_and, Bool.and_true, Bool.false_and, Bool.and_false, Bool.not_true, Bool.not_false, o_len_l, o_len_t, o_abs, o_max, o_min, o_int, o_intb, o_tup_l, o_tup_t, o_list_l, o_list_t, o_all, o_any, o_divmod, o_max1, o_min1, o_sum1, o_str, o_strs, o_add, o_add_l, o_add_t, o_sub, o_mul, o_mul_l, o_mul_t, o_div, o_mod, o_pow, o_lt, o_le, o_gt, o_ge, o_eq, o_ne, o_nes, o_eqs, o_eqb, o_tn, o_tb, o_ti, o_tl, o_tt, o_ixl, o_ixt, o_sll, o_slt, if_true, if_false, decide_true, decide_false, retOf, Option.map_some, Bool.false_eq_true, at_at, List.take, List.drop, a3_0, atI_map hk, Nat.le_add_left, Nat.reduceLeDiff]
  | .was, d, m, hm, _, _ => by
    refine call_data (f := f13) hm rfl rfl rfl ?_
    simp only [f13, Ex.P, List.map_cons, List.map_nil, List.length_cons, List.length_nil, List.replicate, List.cons_append, List.nil_append, List.getElem?_cons_zero, List.getElem?_cons_succ, List.set_cons_zero, List.set_cons_succ, Nat.reduceAdd, Nat.reduceSub, Nat.zero_add, denSs, denS, denE, denT, denTAnd, denTOr, denAnd, denOr, denEs, denO, denI, Res.bind, Res.bindN, rdd, rd, rds, dat, bol, mkL, dats, itsOf, setIx, isL, apIx, seqOf, setAll, bindT, bindTs, itsAll, p_int_n, p_int_b, p_int_i, p_int_s, p_int_l, p_int_t, p_int_d, p_bool_n, p_bool_b, p_bool_i, p_bool_s, p_bool_l, p_bool_t, p_bool_d, p_tuple_n, p_tuple_b, p_tuple_i, p_tuple_s, p_tuple_l, p_tuple_t, p_tuple_d, p_list_n, p_list_b, p_list_i, p_list_s, p_list_l, p_list_t, p_list_d, p_str_n, p_str_b, p_str_i, p_str_s, p_str_l, p_str_t, p_str_d, p_dict_n, p_dict_b, p_dict_i, p_dict_s, p_dict_l, p_dict_t, p_dict_d, Bool.true_or, Bool.or_true, Bool.false_or, Bool.or_false, Bool.true_and, Bool.and_true, Bool.false_and, Bool.and_false, Bool.not_true, Bool.not_false, o_len_l, o_len_t, o_abs, o_max, o_min, o_int, o_intb, o_tup_l, o_tup_t, o_list_l, o_list_t, o_all, o_any, o_divmod, o_max1, o_min1, o_sum1, o_str, o_strs, o_add, o_add_l, o_add_t, o_sub, o_mul, o_mul_l, o_mul_t, o_div, o_mod, o_pow, o_lt, o_le, o_gt, o_ge, o_eq, o_ne, o_nes, o_eqs, o_eqb, o_tn, o_tb, o_ti, o_tl, o_tt, o_ixl, o_ixt, o_sll, o_slt, if_true, if_false, decide_true, decide_false, retOf, Option.map_some, Bool.false_eq_true, was_at, was_was, List.take, List.drop, Nat.le_refl]
  | .op o a b, d, m, hm, hd, ⟨oa, ob⟩ => by
    obtain ⟨d, rfl⟩ : ∃ d', d = d' + 1 := ⟨d - 1, by simp only [Ex.dep] at hd; omega⟩
    have da : a.dep ≤ d := by simp only [Ex.dep] at hd; omega
    have db : b.dep ≤ d := by simp only [Ex.dep] at hd; omega
    have ia := r_in n r s hr hs a d (m ++ [.lst []]) (hm.appL _) da oa
    -- up to the comprehension
    have pre : ∀ (R : Res (Fl × Sl)), denSs (callN T (n + d + 5)) (.cons (.setT [6, 7] (.lc false (.nm 9) ["part"] (.e (.var 8)) .nil elt)) (.op 3 "p_int_n, p_int_b, p_int_i, p_int_s, p_int_l, p_int_t, p_int_d, p_bool_n, p_bool_b, p_bool_i, p_bool_s, p_bool_l, p_bool_t, p_bool_d, p_tuple_n, p_tuple_b, p_tuple_i, p_tuple_s, p_tuple_l, p_tuple_t, p_tuple_d, p_list_n, p_list_b, p_list_i, p_list_s, p_list_l, p_list_t, p_list_d, p_str_n, p_str_b, p_str_i, p_str_s, p_str_l, p_str_t, p_str_d, p_dict_n, p_dict_b, p_dict_i, p_dict_s, p_dict_l, p_dict_t, p_dict_d, Bool.true_or, Bool.or_true, Bool.false_or, Bool.or_false, Bool.true_and, Bool.and_true, Bool.false_and, Bool.and_false, Bool.not_true, Bool.not_false, o_len_l, o_len_t, o_abs, o_max, o_min, o_int, o_intb, o_tup_l, o_tup_t, o_list_l, o_list_t, o_all, o_any, o_divmod, o_max1, o_min1, o_sum1, o_str, o_strs, o_add, o_add_l, o_add_t, o_sub, o_mul, o_mul_l, o_mul_t, o_div, o_mod, o_pow, o_lt, o_le, o_gt, o_ge, o_eq, o_ne, o_nes, o_eqs, o_eqb, o_tn, o_tb, o_ti, o_tl, o_tt, o_ixl, o_ixt, o_sll, o_slt, if_true, if_false, decide_true, decide_false, retOf, Option.map_some, Bool.false_eq_true" [("plus", 4), ("minus", 5), ("times", 6), ("over", 7), ("rest", 8), ("less", 9), ("same", 10)] (.var 5) 4 (.cons (.var 6) (.cons (.var 7) .nil)) (.cons (.iff (.not_ (.v (.call 3 "is_word" (.cons (.var 4) .nil)))) (.cons (.raiseF "Falls" "word" (.cst (.str "great"))) .nil) (.nil)) (.cons (.ret (.var 4)) .nil))))
        [some (.d (.tuple [.str o.nm, a.P, b.P])), some (.d (.tuple (r.map .int))), some (.d (.int s)), none, none, some (.d (.str o.nm)), none, none, some (.d (.list [a.P, b.P])), none] m = R →
        denSs (callN T (n + d + 5)) f13.body [some (.d (.tuple [.str o.nm, a.P, b.P])), some (.d (.tuple (r.map .int))), some (.d (.int s)), none, none, none, none, none, none, none] m = R := fun R h => by
      simp only [f13]
      refine seq_step (env1 := [some (.d (.tuple [.str o.nm, a.P, b.P])), some (.d (.tuple (r.map .int))), some (.d (.int s)), none, none, none, none, none, none, none]) (m1 := m) (by simp only [List.map_cons, List.map_nil, List.length_cons, List.length_nil, List.replicate, List.cons_append, List.nil_append, List.getElem?_cons_zero, List.getElem?_cons_succ, List.set_cons_zero, List.set_cons_succ, Nat.reduceAdd, Nat.reduceSub, Nat.zero_add, denSs, denS, denE, denT, denTAnd, denTOr, denAnd, denOr, denEs, denO, denI, Res.bind, Res.bindN, rdd, rd, rds, dat, bol, mkL, dats, itsOf, setIx, isL, apIx, seqOf, setAll, bindT, bindTs, itsAll, p_int_n, p_int_b, p_int_i, p_int_s, p_int_l, p_int_t, p_int_d, p_bool_n, p_bool_b, p_bool_i, p_bool_s, p_bool_l, p_bool_t, p_bool_d, p_tuple_n, p_tuple_b, p_tuple_i, p_tuple_s, p_tuple_l, p_tuple_t, p_tuple_d, p_list_n, p_list_b, p_list_i, p_list_s, p_list_l, p_list_t, p_list_d, p_str_n, p_str_b, p_str_i, p_str_s, p_str_l, p_str_t, p_str_d, p_dict_n, p_dict_b, p_dict_i, p_dict_s, p_dict_l, p_dict_t, p_dict_d, Bool.true_or, Bool.or_true, Bool.false_or, Bool.or_false, Bool.true_and, Bool.and_true, Bool.false_and, Bool.and_false, Bool.not_true, Bool.not_false, o_len_l, o_len_t, o_abs, o_max, o_min, o_int, o_intb, o_tup_l, o_tup_t, o_list_l, o_list_t, o_all, o_any, o_divmod, o_max1, o_min1, o_sum1, o_str, o_strs, o_add, o_add_l, o_add_t, o_sub, o_mul, o_mul_l, o_mul_t, o_div, o_mod, o_pow, o_lt, o_le, o_gt, o_ge, o_eq, o_ne, o_nes, o_eqs, o_eqb, o_tn, o_tb, o_ti, o_tl, o_tt, o_ixl, o_ixt, o_sll, o_slt, if_true, if_false, decide_true, decide_false, retOf, Option.map_some, Bool.false_eq_true]) ?_
      refine seq_step (env1 := [some (.d (.tuple [.str o.nm, a.P, b.P])), some (.d (.tuple (r.map .int))), some (.d (.int s)), none, none, some (.d (.str o.nm)), none, none, some (.d (.list [a.P, b.P])), none]) (m1 := m) (by simp only [List.map_cons, List.map_nil, List.length_cons, List.length_nil, List.replicate, List.cons_append, List.nil_append, List.getElem?_cons_zero, List.getElem?_cons_succ, List.set_cons_zero, List.set_cons_succ, Nat.reduceAdd, Nat.reduceSub, Nat.zero_add, denSs, denS, denE, denT, denTAnd, denTOr, denAnd, denOr, denEs, denO, denI, Res.bind, Res.bindN, rdd, rd, rds, dat, bol, mkL, dats, itsOf, setIx, isL, apIx, seqOf, setAll, bindT, bindTs, itsAll, p_int_n, p_int_b, p_int_i, p_int_s, p_int_l, p_int_t, p_int_d, p_bool_n, p_bool_b, p_bool_i, p_bool_s, p_bool_l, p_bool_t, p_bool_d, p_tuple_n, p_tuple_b, p_tuple_i, p_tuple_s, p_tuple_l, p_tuple_t, p_tuple_d, p_list_n, p_list_b, p_list_i, p_list_s, p_list_l, p_list_t, p_list_d, p_str_n, p_str_b, p_str_i, p_str_s, p_str_l, p_str_t, p_str_d, p_dict_n, p_dict_b, p_dict_i, p_dict_s, p_dict_l, p_dict_t, p_dict_d, Bool.true_or, Bool.or_true, Bool.false_or, Bool.or_false, Bool.true_and, Bool.and_true, Bool.false_and, Bool.and_false, Bool.not_true, Bool.not_false, o_len_l, o_len_t, o_abs, o_max, o_min, o_int, o_intb, o_tup_l, o_tup_t, o_list_l, o_list_t, o_all, o_any, o_divmod, o_max1, o_min1, o_sum1, o_str, o_strs, o_add, o_add_l, o_add_t, o_sub, o_mul, o_mul_l, o_mul_t, o_div, o_mod, o_pow, o_lt, o_le, o_gt, o_ge, o_eq, o_ne, o_nes, o_eqs, o_eqb, o_tn, o_tb, o_ti, o_tl, o_tt, o_ixl, o_ixt, o_sll, o_slt, if_true, if_false, decide_true, decide_false, retOf, Option.map_some, Bool.false_eq_true, List.take, List.drop, Nat.reduceLeDiff]) ?_
      refine seq_step (env1 := [some (.d (.tuple [.str o.nm, a.P, b.P])), some (.d (.tuple (r.map .int))), some (.d (.int s)), none, none, some (.d (.str o.nm)), none, none, some (.d (.list [a.P, b.P])), none]) (m1 := m) (by simp only [List.map_cons, List.map_nil, List.length_cons, List.length_nil, List.replicate, List.cons_append, List.nil_append, List.getElem?_cons_zero, List.getElem?_cons_succ, List.set_cons_zero, List.set_cons_succ, Nat.reduceAdd, Nat.reduceSub, Nat.zero_add, denSs, denS, denE, denT, denTAnd, denTOr, denAnd, denOr, denEs, denO, denI, Res.bind, Res.bindN, rdd, rd, rds, dat, bol, mkL, dats, itsOf, setIx, isL, apIx, seqOf, setAll, bindT, bindTs, itsAll, p_int_n, p_int_b, p_int_i, p_int_s, p_int_l, p_int_t, p_int_d, p_bool_n, p_bool_b, p_bool_i, p_bool_s, p_bool_l, p_bool_t, p_bool_d, p_tuple_n, p_tuple_b, p_tuple_i, p_tuple_s, p_tuple_l, p_tuple_t, p_tuple_d, p_list_n, p_list_b, p_list_i, p_list_s, p_list_l, p_list_t, p_list_d, p_str_n, p_str_b, p_str_i, p_str_s, p_str_l, p_str_t, p_str_d, p_dict_n, p_dict_b, p_dict_i, p_dict_s, p_dict_l, p_dict_t, p_dict_d, Bool.true_or, Bool.or_true, Bool.false_or, Bool.or_false, Bool.true_and, Bool.and_true, Bool.false_and, Bool.and_false, Bool.not_true, Bool.not_false, o_len_l, o_len_t, o_abs, o_max, o_min, o_int, o_intb, o_tup_l, o_tup_t, o_list_l, o_list_t, o_all, o_any, o_divmod, o_max1, o_min1, o_sum1, o_str, o_strs, o_add, o_add_l, o_add_t, o_sub, o_mul, o_mul_l, o_mul_t, o_div, o_mod, o_pow, o_lt, o_le, o_gt, o_ge, o_eq, o_ne, o_nes, o_eqs, o_eqb, o_tn, o_tb, o_ti, o_tl, o_tt, o_ixl, o_ixt, o_sll, o_slt, if_true, if_false, decide_true, decide_false, retOf, Option.map_some, Bool.false_eq_true, nm_at]) ?_
      refine seq_step (env1 := [some (.d (.tuple [.str o.nm, a.P, b.P])), some (.d (.tuple (r.map .int))), some (.d (.int s)), none, none, some (.d (.str o.nm)), none, none, some (.d (.list [a.P, b.P])), none]) (m1 := m) (by simp only [List.map_cons, List.map_nil, List.length_cons, List.length_nil, List.replicate, List.cons_append, List.nil_append, List.getElem?_cons_zero, List.getElem?_cons_succ, List.set_cons_zero, List.set_cons_succ, Nat.reduceAdd, Nat.reduceSub, Nat.zero_add, denSs, denS, denE, denT, denTAnd, denTOr, denAnd, denOr, denEs, denO, denI, Res.bind, Res.bindN, rdd, rd, rds, dat, bol, mkL, dats, itsOf, setIx, isL, apIx, seqOf, setAll, bindT, bindTs, itsAll, p_int_n, p_int_b, p_int_i, p_int_s, p_int_l, p_int_t, p_int_d, p_bool_n, p_bool_b, p_bool_i, p_bool_s, p_bool_l, p_bool_t, p_bool_d, p_tuple_n, p_tuple_b, p_tuple_i, p_tuple_s, p_tuple_l, p_tuple_t, p_tuple_d, p_list_n, p_list_b, p_list_i, p_list_s, p_list_l, p_list_t, p_list_d, p_str_n, p_str_b, p_str_i, p_str_s, p_str_l, p_str_t, p_str_d, p_dict_n, p_dict_b, p_dict_i, p_dict_s, p_dict_l, p_dict_t, p_dict_d, Bool.true_or, Bool.or_true, Bool.false_or, Bool.or_false, Bool.true_and, Bool.and_true, Bool.false_and, Bool.and_false, Bool.not_true, Bool.not_false, o_len_l, o_len_t, o_abs, o_max, o_min, o_int, o_intb, o_tup_l, o_tup_t, o_list_l, o_list_t, o_all, o_any, o_divmod, o_max1, o_min1, o_sum1, o_str, o_strs, o_add, o_add_l, o_add_t, o_sub, o_mul, o_mul_l, o_mul_t, o_div, o_mod, o_pow, o_lt, o_le, o_gt, o_ge, o_eq, o_ne, o_nes, o_eqs, o_eqb, o_tn, o_tb, o_ti, o_tl, o_tt, o_ixl, o_ixt, o_sll, o_slt, if_true, if_false, decide_true, decide_false, retOf, Option.map_some, Bool.false_eq_true, nm_was]) ?_
      exact h
    have hI : denI (callN T (n + d + 5)) (.e (.var 8)) [some (.d (.tuple [.str o.nm, a.P, b.P])), some (.d (.tuple (r.map .int))), some (.d (.int s)), none, none, some (.d (.str o.nm)), none, none, some (.d (.list [a.P, b.P])), none] m = .ok ⟨[a.P, b.P], []⟩ m := by simp only [List.map_cons, List.map_nil, List.length_cons, List.length_nil, List.replicate, List.cons_append, List.nil_append, List.getElem?_cons_zero, List.getElem?_cons_succ, List.set_cons_zero, List.set_cons_succ, Nat.reduceAdd, Nat.reduceSub, Nat.zero_add, denSs, denS, denE, denT, denTAnd, denTOr, denAnd, denOr, denEs, denO, denI, Res.bind, Res.bindN, rdd, rd, rds, dat, bol, mkL, dats, itsOf, setIx, isL, apIx, seqOf, setAll, bindT, bindTs, itsAll]
    simp only [Ex.val]
    cases va : a.val r s with
    | fall w =>
      rw [va] at ia
      obtain ⟨t, ht, ea⟩ := ia
      simp only
      refine ⟨[.lst []] ++ t, LD.apps (m := [.lst []]) (LD.nil.appL []) ht, call_err (f := f13) rfl rfl ?_⟩
      refine (congrArg retOf (pre _ (seq_err ?_))).trans rfl
      have g := lc2_e1 (x := ["part"]) hI ((elt_run).trans ea)
      rw [List.append_assoc] at g
      simp only [denS, g, Res.bind]
    | ok x =>
      rw [va] at ia
      have ib := r_in n r s hr hs b d (m ++ [.lst [.int x]]) (hm.appL _) db ob
      simp only
      cases vb : b.val r s with
      | fall w =>
        rw [vb] at ib
        obtain ⟨t, ht, eb⟩ := ib
        simp only
        refine ⟨[.lst [.int x]] ++ t, LD.apps (m := [.lst [.int x]]) (LD.nil.appL [.int x]) ht, call_err (f := f13) rfl rfl ?_⟩
        refine (congrArg retOf (pre _ (seq_err ?_))).trans rfl
        have g := lc2_e2 (x := ["part"]) hI ((elt_run).trans ia) ((elt_run).trans eb)
        rw [List.append_assoc] at g
        simp only [denS, g, Res.bind]
      | ok y =>
        rw [vb] at ib
        have g := lc2_ok (x := ["part"]) hm hI ((elt_run).trans ia) ((elt_run).trans ib)
        have hx := val_wd hr hs a oa va
        have hy := val_wd hr hs b ob vb
        have ro := r_op (n + d + 1) o x y m hm hx hy
        rw [show n + d + 1 + 4 = n + d + 5 from rfl] at ro
        have st : denS (callN T (n + d + 5)) (.setT [6, 7] (.lc false (.nm 9) ["part"] (.e (.var 8)) .nil elt)) [some (.d (.tuple [.str o.nm, a.P, b.P])), some (.d (.tuple (r.map .int))), some (.d (.int s)), none, none, some (.d (.str o.nm)), none, none, some (.d (.list [a.P, b.P])), none] m =
            .ok (.nx, [some (.d (.tuple [.str o.nm, a.P, b.P])), some (.d (.tuple (r.map .int))), some (.d (.int s)), none, none, some (.d (.str o.nm)), some (.d (.int x)), some (.d (.int y)), some (.d (.list [a.P, b.P])), none]) m := by
          simp only [denS, g, List.map_cons, List.map_nil, List.length_cons, List.length_nil, List.replicate, List.cons_append, List.nil_append, List.getElem?_cons_zero, List.getElem?_cons_succ, List.set_cons_zero, List.set_cons_succ, Nat.reduceAdd, Nat.reduceSub, Nat.zero_add, Res.bind, rdd, rd, seqOf, setAll, if_true]
        simp only [fin]
        cases vo : opD o x y with
        | none =>
          rw [vo] at ro
          simp only
          refine ⟨[], LD.nil, call_err (f := f13) rfl rfl ?_⟩
          rw [List.append_nil]
          refine (congrArg retOf (pre _ (seq_step st (op_err (z := o.nm) (m1 := m) (m2 := m) (vs := [.d (.int x), .d (.int y)]) ?_ (nm_ix o) ?_ ro)))).trans rfl
          · simp only [List.map_cons, List.map_nil, List.length_cons, List.length_nil, List.replicate, List.cons_append, List.nil_append, List.getElem?_cons_zero, List.getElem?_cons_succ, List.set_cons_zero, List.set_cons_succ, Nat.reduceAdd, Nat.reduceSub, Nat.zero_add, denSs, denS, denE, denT, denTAnd, denTOr, denAnd, denOr, denEs, denO, denI, Res.bind, Res.bindN, rdd, rd, rds, dat, bol, mkL, dats, itsOf, setIx, isL, apIx, seqOf, setAll, bindT, bindTs, itsAll]
          · simp only [List.map_cons, List.map_nil, List.length_cons, List.length_nil, List.replicate, List.cons_append, List.nil_append, List.getElem?_cons_zero, List.getElem?_cons_succ, List.set_cons_zero, List.set_cons_succ, Nat.reduceAdd, Nat.reduceSub, Nat.zero_add, denSs, denS, denE, denT, denTAnd, denTOr, denAnd, denOr, denEs, denO, denI, Res.bind, Res.bindN, rdd, rd, rds, dat, bol, mkL, dats, itsOf, setIx, isL, apIx, seqOf, setAll, bindT, bindTs, itsAll]
        | some z =>
          rw [vo] at ro
          simp only
          have rw_ := word_run h0 h1 h3 (n + d + 2) z m hm
          rw [show n + d + 2 + 3 = n + d + 5 from rfl] at rw_
          have ho : ∀ R, denSs (callN T (n + d + 5)) (.cons (.iff (.not_ (.v (.call 3 "is_word" (.cons (.var 4) .nil)))) (.cons (.raiseF "Falls" "word" (.cst (.str "great"))) .nil) (.nil)) (.cons (.ret (.var 4)) .nil))
              [some (.d (.tuple [.str o.nm, a.P, b.P])), some (.d (.tuple (r.map .int))), some (.d (.int s)), none, some (.d (.int z)), some (.d (.str o.nm)), some (.d (.int x)), some (.d (.int y)), some (.d (.list [a.P, b.P])), none] m = R → _ := fun R h =>
            pre R (seq_step st (op_step (z := o.nm) (m1 := m) (m2 := m) (vs := [.d (.int x), .d (.int y)]) (by simp only [List.map_cons, List.map_nil, List.length_cons, List.length_nil, List.replicate, List.cons_append, List.nil_append, List.getElem?_cons_zero, List.getElem?_cons_succ, List.set_cons_zero, List.set_cons_succ, Nat.reduceAdd, Nat.reduceSub, Nat.zero_add, denSs, denS, denE, denT, denTAnd, denTOr, denAnd, denOr, denEs, denO, denI, Res.bind, Res.bindN, rdd, rd, rds, dat, bol, mkL, dats, itsOf, setIx, isL, apIx, seqOf, setAll, bindT, bindTs, itsAll]) (nm_ix o) (by simp only [List.map_cons, List.map_nil, List.length_cons, List.length_nil, List.replicate, List.cons_append, List.nil_append, List.getElem?_cons_zero, List.getElem?_cons_succ, List.set_cons_zero, List.set_cons_succ, Nat.reduceAdd, Nat.reduceSub, Nat.zero_add, denSs, denS, denE, denT, denTAnd, denTOr, denAnd, denOr, denEs, denO, denI, Res.bind, Res.bindN, rdd, rd, rds, dat, bol, mkL, dats, itsOf, setIx, isL, apIx, seqOf, setAll, bindT, bindTs, itsAll]) ro (by simpa only [List.map_cons, List.map_nil, List.length_cons, List.length_nil, List.replicate, List.cons_append, List.nil_append, List.getElem?_cons_zero, List.getElem?_cons_succ, List.set_cons_zero, List.set_cons_succ, Nat.reduceAdd, Nat.reduceSub, Nat.zero_add] using h)))
          by_cases q : Wd z
          · rw [decide_eq_true q] at rw_
            simp only [q, if_true]
            exact call_data (f := f13) hm rfl rfl rfl ((congrArg retOf (ho _ rfl)).trans (by simp only [List.map_cons, List.map_nil, List.length_cons, List.length_nil, List.replicate, List.cons_append, List.nil_append, List.getElem?_cons_zero, List.getElem?_cons_succ, List.set_cons_zero, List.set_cons_succ, Nat.reduceAdd, Nat.reduceSub, Nat.zero_add, denSs, denS, denE, denT, denTAnd, denTOr, denAnd, denOr, denEs, denO, denI, Res.bind, Res.bindN, rdd, rd, rds, dat, bol, mkL, dats, itsOf, setIx, isL, apIx, seqOf, setAll, bindT, bindTs, itsAll, p_int_n, p_int_b, p_int_i, p_int_s, p_int_l, p_int_t, p_int_d, p_bool_n, p_bool_b, p_bool_i, p_bool_s, p_bool_l, p_bool_t, p_bool_d, p_tuple_n, p_tuple_b, p_tuple_i, p_tuple_s, p_tuple_l, p_tuple_t, p_tuple_d, p_list_n, p_list_b, p_list_i, p_list_s, p_list_l, p_list_t, p_list_d, p_str_n, p_str_b, p_str_i, p_str_s, p_str_l, p_str_t, p_str_d, p_dict_n, p_dict_b, p_dict_i, p_dict_s, p_dict_l, p_dict_t, p_dict_d, Bool.true_or, Bool.or_true, Bool.false_or, Bool.or_false, Bool.true_and, Bool.and_true, Bool.false_and, Bool.and_false, Bool.not_true, Bool.not_false, o_len_l, o_len_t, o_abs, o_max, o_min, o_int, o_intb, o_tup_l, o_tup_t, o_list_l, o_list_t, o_all, o_any, o_divmod, o_max1, o_min1, o_sum1, o_str, o_strs, o_add, o_add_l, o_add_t, o_sub, o_mul, o_mul_l, o_mul_t, o_div, o_mod, o_pow, o_lt, o_le, o_gt, o_ge, o_eq, o_ne, o_nes, o_eqs, o_eqb, o_tn, o_tb, o_ti, o_tl, o_tt, o_ixl, o_ixt, o_sll, o_slt, if_true, if_false, decide_true, decide_false, retOf, Option.map_some, Bool.false_eq_true, rw_]))
          · rw [decide_eq_false q] at rw_
            simp only [q, if_false]
            refine ⟨[], LD.nil, call_err (f := f13) rfl rfl ((congrArg retOf (ho _ rfl)).trans ?_)⟩
            rw [List.append_nil]
            simp only [List.map_cons, List.map_nil, List.length_cons, List.length_nil, List.replicate, List.cons_append, List.nil_append, List.getElem?_cons_zero, List.getElem?_cons_succ, List.set_cons_zero, List.set_cons_succ, Nat.reduceAdd, Nat.reduceSub, Nat.zero_add, denSs, denS, denE, denT, denTAnd, denTOr, denAnd, denOr, denEs, denO, denI, Res.bind, Res.bindN, rdd, rd, rds, dat, bol, mkL, dats, itsOf, setIx, isL, apIx, seqOf, setAll, bindT, bindTs, itsAll, p_int_n, p_int_b, p_int_i, p_int_s, p_int_l, p_int_t, p_int_d, p_bool_n, p_bool_b, p_bool_i, p_bool_s, p_bool_l, p_bool_t, p_bool_d, p_tuple_n, p_tuple_b, p_tuple_i, p_tuple_s, p_tuple_l, p_tuple_t, p_tuple_d, p_list_n, p_list_b, p_list_i, p_list_s, p_list_l, p_list_t, p_list_d, p_str_n, p_str_b, p_str_i, p_str_s, p_str_l, p_str_t, p_str_d, p_dict_n, p_dict_b, p_dict_i, p_dict_s, p_dict_l, p_dict_t, p_dict_d, Bool.true_or, Bool.or_true, Bool.false_or, Bool.or_false, Bool.true_and, Bool.and_true, Bool.false_and, Bool.and_false, Bool.not_true, Bool.not_false, o_len_l, o_len_t, o_abs, o_max, o_min, o_int, o_intb, o_tup_l, o_tup_t, o_list_l, o_list_t, o_all, o_any, o_divmod, o_max1, o_min1, o_sum1, o_str, o_strs, o_add, o_add_l, o_add_t, o_sub, o_mul, o_mul_l, o_mul_t, o_div, o_mod, o_pow, o_lt, o_le, o_gt, o_ge, o_eq, o_ne, o_nes, o_eqs, o_eqb, o_tn, o_tb, o_ti, o_tl, o_tt, o_ixl, o_ixt, o_sll, o_slt, if_true, if_false, decide_true, decide_false, retOf, Option.map_some, Bool.false_eq_true, rw_, probe_run hT (n + d + 2) m, falls]
/-- worth -/
theorem r_worth (n : Nat) (r : List Int) (s : Int) (hr : ∀ i ∈ r, Wd i) (hs : Wd s) (e : Ex) (d : Nat) (m : Mem) (hm : LD m) (hd : e.dep ≤ d) (ho : e.Ok r.length) :
    match e.val r s with
    | .ok z => callN T (n + d + 6) 14 [.d e.P, .d (.tuple (r.map .int)), .d (.int s)] m = .ok (.d (.int z)) m
    | .fall w => ∃ t, callN T (n + d + 6) 14 [.d e.P, .d (.tuple (r.map .int)), .d (.int s)] m = .err (falls w) (m ++ t) := by
  have h := r_in n r s hr hs e d m hm hd ho
  cases q : e.val r s with
  | ok z =>
    rw [q] at h
    exact call_data (f := f14) hm rfl rfl rfl (by simp only [f14, List.map_cons, List.map_nil, List.length_cons, List.length_nil, List.replicate, List.cons_append, List.nil_append, List.getElem?_cons_zero, List.getElem?_cons_succ, List.set_cons_zero, List.set_cons_succ, Nat.reduceAdd, Nat.reduceSub, Nat.zero_add, denSs, denS, denE, denT, denTAnd, denTOr, denAnd, denOr, denEs, denO, denI, Res.bind, Res.bindN, rdd, rd, rds, dat, bol, mkL, dats, itsOf, setIx, isL, apIx, seqOf, setAll, bindT, bindTs, itsAll, retOf, h])
  | fall w =>
    rw [q] at h
    obtain ⟨t, _, h⟩ := h
    exact ⟨t, call_err (f := f14) rfl rfl (by simp only [f14, List.map_cons, List.map_nil, List.length_cons, List.length_nil, List.replicate, List.cons_append, List.nil_append, List.getElem?_cons_zero, List.getElem?_cons_succ, List.set_cons_zero, List.set_cons_succ, Nat.reduceAdd, Nat.reduceSub, Nat.zero_add, denSs, denS, denE, denT, denTAnd, denTOr, denAnd, denOr, denEs, denO, denI, Res.bind, Res.bindN, rdd, rd, rds, dat, bol, mkL, dats, itsOf, setIx, isL, apIx, seqOf, setAll, bindT, bindTs, itsAll, retOf, h])⟩
/-! ### one in the place of another -/
def Ex.put (n : Nat) : Ex → Ex → Ex
  | .num i, _ => .num i
  | .at_ k, o => if k = n then o else .at_ k
  | .was, _ => .was
  | .op p a b, o => .op p (a.put n o) (b.put n o)
def Ex.has (n : Nat) : Ex → Bool
  | .at_ k => decide (k = n)
  | .op _ a b => a.has n || b.has n
  | _ => false
def Ex.putW (s : Int) : Ex → Ex
  | .num i => .num i
  | .at_ k => .at_ k
  | .was => .num s
  | .op p a b => .op p (a.putW s) (b.putW s)
def Ex.turn (f : Nat → Nat) : Ex → Ex
  | .num i => .num i
  | .at_ k => .at_ (f k)
  | .was => .was
  | .op p a b => .op p (a.turn f) (b.turn f)
def Ex.bare : Ex → Nat → Ex × List Int
  | .num i, n => (.at_ n, [i])
  | .at_ k, _ => (.at_ k, [])
  | .was, _ => (.was, [])
  | .op p a b, n => (.op p (a.bare n).1 (b.bare (n + (a.bare n).2.length)).1, (a.bare n).2 ++ (b.bare (n + (a.bare n).2.length)).2)
def W.isFall : W → Bool
  | .fall _ => true
  | .ok _ => false
theorem getD_left {r : List Int} {k : Nat} (q : List Int) (h : k < r.length) : (r ++ q).getD k 0 = r.getD k 0 := by
  rw [List.getD_eq_getElem?_getD, List.getD_eq_getElem?_getD, List.getElem?_append_left h]
theorem getD_at (r : List Int) (w : Int) (q : List Int) : (r ++ w :: q).getD r.length 0 = w := by
  rw [List.getD_eq_getElem?_getD, List.getElem?_append_right (Nat.le_refl _)]
  simp
theorem put_ok {r : List Int} {s w : Int} {o : Ex} (ho : o.val r s = .ok w) : ∀ e : Ex, e.Ok (r.length + 1) → (e.put r.length o).val r s = e.val (r ++ [w]) s
  | .num _, _ => rfl
  | .was, _ => rfl
  | .at_ k, h => by
    have h : k < r.length + 1 := h
    unfold Ex.put
    split
    · rename_i q
      subst q
      rw [ho]
      show W.ok w = .ok ((r ++ [w]).getD r.length 0)
      rw [getD_at]
    · show W.ok (r.getD k 0) = .ok ((r ++ [w]).getD k 0)
      rw [getD_left _ (by omega)]
  | .op p a b, h => by
    have ia := put_ok ho a h.1
    have ib := put_ok ho b h.2
    simp only [Ex.put, Ex.val, ia, ib]
theorem put_no {r : List Int} {s x : Int} {o : Ex} : ∀ e : Ex, e.Ok (r.length + 1) → e.has r.length = false → (e.put r.length o).val r s = e.val (r ++ [x]) s
  | .num _, _, _ => rfl
  | .was, _, _ => rfl
  | .at_ k, h, q => by
    have h : k < r.length + 1 := h
    have q : ¬ k = r.length := of_decide_eq_false q
    unfold Ex.put
    rw [if_neg q]
    show W.ok (r.getD k 0) = .ok ((r ++ [x]).getD k 0)
    rw [getD_left _ (by omega)]
  | .op p a b, h, q => by
    have q : (a.has r.length || b.has r.length) = false := q
    rw [Bool.or_eq_false_iff] at q
    have ia := put_no (s := s) (x := x) (o := o) a h.1 q.1
    have ib := put_no (s := s) (x := x) (o := o) b h.2 q.2
    simp only [Ex.put, Ex.val, ia, ib]
theorem put_fall {r : List Int} {s : Int} {o : Ex} (ho : (o.val r s).isFall = true) (n : Nat) : ∀ e : Ex, e.has n = true → ((e.put n o).val r s).isFall = true
  | .num _, h => by cases h
  | .was, h => by cases h
  | .at_ k, h => by
    have h : k = n := of_decide_eq_true h
    unfold Ex.put
    rw [if_pos h]
    exact ho
  | .op p a b, h => by
    have h : (a.has n || b.has n) = true := h
    rw [Bool.or_eq_true] at h
    simp only [Ex.put, Ex.val]
    rcases h with h | h
    · have ia := put_fall ho n a h
      cases q : (a.put n o).val r s with
      | fall w => rfl
      | ok x => rw [q] at ia; cases ia
    · have ib := put_fall ho n b h
      cases q : (a.put n o).val r s with
      | fall w => rfl
      | ok x =>
        cases q2 : (b.put n o).val r s with
        | fall w => rfl
        | ok y => rw [q2] at ib; cases ib
theorem putW_val {r : List Int} {s s' : Int} : ∀ e : Ex, (e.putW s).val r s' = e.val r s
  | .num _ => rfl
  | .was => rfl
  | .at_ _ => rfl
  | .op p a b => by
    have ia := putW_val (r := r) (s := s) (s' := s') a
    have ib := putW_val (r := r) (s := s) (s' := s') b
    simp only [Ex.putW, Ex.val, ia, ib]
theorem turn_val {r t : List Int} {s : Int} {f : Nat → Nat} (h : ∀ k, k < r.length → t.getD (f k) 0 = r.getD k 0) : ∀ e : Ex, e.Ok r.length → (e.turn f).val t s = e.val r s
  | .num _, _ => rfl
  | .was, _ => rfl
  | .at_ k, hk => by
    show W.ok (t.getD (f k) 0) = .ok (r.getD k 0)
    rw [h k hk]
  | .op p a b, hk => by
    have ia := turn_val (s := s) h a hk.1
    have ib := turn_val (s := s) h b hk.2
    simp only [Ex.turn, Ex.val, ia, ib]
theorem turn_ok {n n' : Nat} {f : Nat → Nat} (h : ∀ k, k < n → f k < n') : ∀ e : Ex, e.Ok n → (e.turn f).Ok n'
  | .num _, hi => hi
  | .was, _ => True.intro
  | .at_ k, hk => h k hk
  | .op p a b, hk => ⟨turn_ok h a hk.1, turn_ok h b hk.2⟩
theorem turn_dep (f : Nat → Nat) : ∀ e : Ex, (e.turn f).dep = e.dep
  | .num _ => rfl
  | .was => rfl
  | .at_ _ => rfl
  | .op p a b => by simp only [Ex.turn, Ex.dep, turn_dep f a, turn_dep f b]
theorem putW_ok {n : Nat} {s : Int} (hs : Wd s) : ∀ e : Ex, e.Ok n → (e.putW s).Ok n
  | .num _, hi => hi
  | .was, _ => hs
  | .at_ _, hk => hk
  | .op p a b, hk => ⟨putW_ok hs a hk.1, putW_ok hs b hk.2⟩
theorem putW_dep (s : Int) : ∀ e : Ex, (e.putW s).dep = e.dep
  | .num _ => rfl
  | .was => rfl
  | .at_ _ => rfl
  | .op p a b => by simp only [Ex.putW, Ex.dep, putW_dep s a, putW_dep s b]
theorem put_Ok {n : Nat} {o : Ex} (ho : o.Ok n) : ∀ e : Ex, e.Ok (n + 1) → (e.put n o).Ok n
  | .num _, hi => hi
  | .was, _ => True.intro
  | .at_ k, hk => by
    have hk : k < n + 1 := hk
    unfold Ex.put
    split
    · exact ho
    · show k < n
      omega
  | .op p a b, hk => ⟨put_Ok ho a hk.1, put_Ok ho b hk.2⟩
theorem put_dep (n : Nat) (o : Ex) : ∀ e : Ex, (e.put n o).dep ≤ e.dep + o.dep
  | .num _ => Nat.zero_le _
  | .was => Nat.zero_le _
  | .at_ k => by
    unfold Ex.put
    split
    · omega
    · exact Nat.zero_le _
  | .op p a b => by
    have ha := put_dep n o a
    have hb := put_dep n o b
    simp only [Ex.put, Ex.dep]
    omega
theorem put_same {n : Nat} {o : Ex} : ∀ e : Ex, e.has n = false → e.put n o = e
  | .num _, _ => rfl
  | .was, _ => rfl
  | .at_ k, h => by
    unfold Ex.put
    rw [if_neg (of_decide_eq_false h)]
  | .op p a b, h => by
    have h : (a.has n || b.has n) = false := h
    rw [Bool.or_eq_false_iff] at h
    simp only [Ex.put, put_same a h.1, put_same b h.2]
/-- words as columns -/
theorem bare_val {s : Int} : ∀ (e : Ex) (r q : List Int) (k : Nat), k ≤ r.length → e.Ok k → (e.bare r.length).1.val (r ++ (e.bare r.length).2 ++ q) s = e.val r s
  | .num i, r, q, k, _, _ => by
    show W.ok ((r ++ [i] ++ q).getD r.length 0) = .ok i
    rw [List.append_assoc]
    exact congrArg W.ok (getD_at r i q)
  | .was, _, _, _, _, _ => rfl
  | .at_ j, r, q, k, hk, h => by
    have h : j < k := h
    show W.ok ((r ++ [] ++ q).getD j 0) = .ok (r.getD j 0)
    rw [List.append_nil, getD_left _ (by omega)]
  | .op p a b, r, q, k, hk, h => by
    have e1 : r.length + (a.bare r.length).2.length = (r ++ (a.bare r.length).2).length := by rw [List.length_append]
    have ia := bare_val (s := s) a r ((b.bare (r ++ (a.bare r.length).2).length).2 ++ q) k hk h.1
    have ib := bare_val (s := s) b (r ++ (a.bare r.length).2) q k (by rw [List.length_append]; omega) h.2
    simp only [Ex.bare, e1, Ex.val]
    rw [← List.append_assoc] at ia
    rw [← List.append_assoc r, ia, ib]
    have hb : b.val (r ++ (a.bare r.length).2) s = b.val r s := val_left b r _ k hk h.2
    rw [hb]
where
  val_left {s : Int} : ∀ (e : Ex) (r q : List Int) (k : Nat), k ≤ r.length → e.Ok k → e.val (r ++ q) s = e.val r s
    | .num _, _, _, _, _, _ => rfl
    | .was, _, _, _, _, _ => rfl
    | .at_ j, r, q, k, hk, h => by
      have h : j < k := h
      show W.ok ((r ++ q).getD j 0) = .ok (r.getD j 0)
      rw [getD_left _ (by omega)]
    | .op p a b, r, q, k, hk, h => by
      simp only [Ex.val, val_left a r q k hk h.1, val_left b r q k hk h.2]
theorem bare_ok : ∀ (e : Ex) (n k : Nat), k ≤ n → e.Ok k → (e.bare n).1.Ok (n + (e.bare n).2.length) ∧ ∀ i ∈ (e.bare n).2, Wd i
  | .num i, n, _, _, h => ⟨Nat.lt_succ_self n, fun j hj => by rw [show (Ex.bare (.num i) n).2 = [i] from rfl, List.mem_singleton] at hj; subst hj; exact h⟩
  | .was, _, _, _, _ => ⟨True.intro, fun j hj => by cases hj⟩
  | .at_ j, n, k, hk, h => ⟨Nat.lt_of_lt_of_le h hk, fun j hj => by cases hj⟩
  | .op p a b, n, k, hk, h => by
    obtain ⟨a1, a2⟩ := bare_ok a n k hk h.1
    obtain ⟨b1, b2⟩ := bare_ok b (n + (a.bare n).2.length) k (by omega) h.2
    simp only [Ex.bare, List.length_append]
    refine ⟨⟨ok_mono a1 (by omega), ok_mono b1 (by omega)⟩, fun j hj => ?_⟩
    rcases List.mem_append.mp hj with hj | hj
    · exact a2 j hj
    · exact b2 j hj
where
  ok_mono {n n' : Nat} : ∀ {e : Ex}, e.Ok n → n ≤ n' → e.Ok n'
    | .num _, h, _ => h
    | .was, _, _ => True.intro
    | .at_ _, h, hn => Nat.lt_of_lt_of_le h hn
    | .op _ _ _, h, hn => ⟨ok_mono h.1 hn, ok_mono h.2 hn⟩
theorem bare_dep : ∀ (e : Ex) (n : Nat), (e.bare n).1.dep = e.dep
  | .num _, _ => rfl
  | .was, _ => rfl
  | .at_ _, _ => rfl
  | .op p a b, n => by simp only [Ex.bare, Ex.dep, bare_dep a, bare_dep b]
/-! ### == of an expression and a leaf -/
theorem lay_P : ∀ e : Ex, PyData.canLay0 e.P = true
  | .num _ => rfl
  | .at_ k => by
    rw [Ex.P, PyData.canLay0, PyData.canLayAll0, PyData.canLayAll0, PyData.canLayAll0, show PyData.canLay0 (.str "at") = true from by decide +kernel, show PyData.canLay0 (.int (k : Int)) = true from rfl]
    rfl
  | .was => by decide +kernel
  | .op o a b => by
    rw [Ex.P, PyData.canLay0, PyData.canLayAll0, PyData.canLayAll0, PyData.canLayAll0, PyData.canLayAll0, lay_P a, lay_P b]
    cases o <;> decide +kernel
theorem depth_P : ∀ e : Ex, PyData.depth e.P ≤ e.dep + 1
  | .num _ => Nat.zero_le _
  | .at_ k => by simp [Ex.P, PyData.depth, PyData.depthAll]
  | .was => by simp [Ex.P, PyData.depth, PyData.depthAll]
  | .op o a b => by
    have ha := depth_P a
    have hb := depth_P b
    simp only [Ex.P, PyData.depth, PyData.depthAll, Ex.dep]
    omega
theorem el_P (e : Ex) (h : e.dep ≤ 50) : elOk e.P = true := by
  have := depth_P e
  unfold elOk
  rw [lay_P, Bool.true_and, decide_eq_true_eq]
  omega
theorem el_s (s : Str) (h : PyData.canLay0 (.str s) = true) : elOk (.str s) = true := by
  unfold elOk
  rw [h]
  rfl
theorem el_at : elOk (.str "at") = true := by decide +kernel
theorem el_was : elOk (.str "was") = true := by decide +kernel
theorem el_nm (o : Op) : elOk (.str o.nm) = true := by cases o <;> decide +kernel
theorem el_i (i : Int) : elOk (.int i) = true := rfl
theorem l13 : (((1 : Nat) : Int) == 3) = false := by decide
theorem l23 : (((2 : Nat) : Int) == 3) = false := by decide
theorem l33 : (((3 : Nat) : Int) == 3) = true := by decide
inductive Lf
  | at_ (n : Nat)
  | was
def Lf.P : Lf → PyData
  | .at_ n => .tuple [.str "at", .int n]
  | .was => .tuple [.str "was"]
def Ex.isL : Ex → Lf → Bool
  | .at_ k, .at_ n => decide (k = n)
  | .was, .was => true
  | _, _ => false
theorem sh_at (n : Nat) : SeqAt.shaped (.tuple [.str "at", .int n]) = true := by
  unfold SeqAt.shaped
  rw [show PyData.canLay0 (.tuple [.str "at", .int (n : Int)]) = true from lay_P (.at_ n)]
  simp [PyData.depth, PyData.depthAll]
theorem sh_was : SeqAt.shaped (.tuple [.str "was"]) = true := by decide +kernel
theorem at_was : (("at" : Str) == ("was" : Str)) = false := by decide +kernel
theorem eq_leaf (e : Ex) (l : Lf) (h : e.dep ≤ 50) : cmpP .Eq e.P l.P = some (e.isL l) := by
  cases l with
  | at_ n =>
    cases e with
    | num i =>
      show (if (SeqAt.shaped (.int i) && SeqAt.shaped (.tuple [.str "at", .int n])) = true then some (PyData.eqv (.int i) (.tuple [.str "at", .int n])) else none) = some false
      rw [show SeqAt.shaped (.int i) = true from rfl, sh_at, PyData.eqv]
      rfl
    | at_ k =>
      show eqP (.tuple [.str "at", .int k]) (.tuple [.str "at", .int n]) = some (decide (k = n))
      simp only [eqP, List.zip_cons_cons, List.zip_nil_right, List.all_cons, List.all_nil, el_at, el_i, Bool.and_self, if_true, PyData.eqv, at_at, Bool.true_and, Bool.and_true, List.length_cons, List.length_nil, decide_true]
      congr 1
      rw [Bool.eq_iff_iff, beq_iff_eq, decide_eq_true_eq]
      omega
    | was =>
      show eqP (.tuple [.str "was"]) (.tuple [.str "at", .int n]) = some false
      simp only [eqP, List.zip_cons_cons, List.zip_nil_left, List.all_cons, List.all_nil, el_at, el_was, Bool.and_self, if_true, PyData.eqv, was_at, Bool.false_and]
    | op o a b =>
      have da : a.dep ≤ 50 := by simp only [Ex.dep] at h; omega
      show eqP (.tuple [.str o.nm, a.P, b.P]) (.tuple [.str "at", .int n]) = some false
      simp only [eqP, List.zip_cons_cons, List.zip_nil_right, List.all_cons, List.all_nil, el_at, el_nm, el_i, el_P a da, Bool.and_self, if_true, PyData.eqv, nm_at, Bool.false_and]
  | was =>
    cases e with
    | num i =>
      show (if (SeqAt.shaped (.int i) && SeqAt.shaped (.tuple [.str "was"])) = true then some (PyData.eqv (.int i) (.tuple [.str "was"])) else none) = some false
      rw [show SeqAt.shaped (.int i) = true from rfl, sh_was, PyData.eqv]
      rfl
    | at_ k =>
      show eqP (.tuple [.str "at", .int k]) (.tuple [.str "was"]) = some false
      simp only [eqP, List.zip_cons_cons, List.zip_nil_right, List.all_cons, List.all_nil, el_at, el_was, Bool.and_self, if_true, PyData.eqv, at_was, Bool.false_and]
    | was =>
      show eqP (.tuple [.str "was"]) (.tuple [.str "was"]) = some true
      decide +kernel
    | op o a b =>
      show eqP (.tuple [.str o.nm, a.P, b.P]) (.tuple [.str "was"]) = some false
      simp only [eqP, List.zip_cons_cons, List.zip_nil_right, List.all_cons, List.all_nil, el_was, el_nm, Bool.and_self, if_true, PyData.eqv, nm_was, Bool.false_and]
/-! ### _law_has -/
theorem r_has (n N : Nat) : ∀ (e : Ex) (d : Nat) (m : Mem), LD m → e.dep ≤ d → d ≤ 50 → callN T (n + d + 1) 21 [.d e.P, .d (Lf.at_ N).P] m = .ok (.d (.bool (e.has N))) m
  | .num i, d, m, hm, hd, h50 => by
    have q := eq_leaf (.num i) (.at_ N) (by simp [Ex.dep])
    refine call_data (f := f21) hm rfl rfl rfl ?_
    generalize callN T (n + d) = call
    generalize (Lf.at_ N).P = L at *
    suffices h : denSs call f21.body [some (.d (Ex.num i).P), some (.d L)] m = .ok (.ret (.d (.bool false)), [some (.d (Ex.num i).P), some (.d L)]) m from congrArg retOf h
    refine seq_step (iff_n (m1 := m) ?_) (seq_step (iff_n (m1 := m) ?_) (ret_step ?_))
    · simp only [List.map_cons, List.map_nil, List.length_cons, List.length_nil, List.replicate, List.cons_append, List.nil_append, List.getElem?_cons_zero, List.getElem?_cons_succ, List.set_cons_zero, List.set_cons_succ, Nat.reduceAdd, Nat.reduceSub, Nat.zero_add, denSs, denS, denE, denT, denTAnd, denTOr, denAnd, denOr, denEs, denO, denI, Res.bind, Res.bindN, rdd, rd, rds, dat, bol, mkL, dats, itsOf, setIx, isL, apIx, seqOf, setAll, bindT, bindTs, itsAll, q, Ex.isL, truP]
    · simp only [List.map_cons, List.map_nil, List.length_cons, List.length_nil, List.replicate, List.cons_append, List.nil_append, List.getElem?_cons_zero, List.getElem?_cons_succ, List.set_cons_zero, List.set_cons_succ, Nat.reduceAdd, Nat.reduceSub, Nat.zero_add, denSs, denS, denE, denT, denTAnd, denTOr, denAnd, denOr, denEs, denO, denI, Res.bind, Res.bindN, rdd, rd, rds, dat, bol, mkL, dats, itsOf, setIx, isL, apIx, seqOf, setAll, bindT, bindTs, itsAll, p_int_n, p_int_b, p_int_i, p_int_s, p_int_l, p_int_t, p_int_d, p_bool_n, p_bool_b, p_bool_i, p_bool_s, p_bool_l, p_bool_t, p_bool_d, p_tuple_n, p_tuple_b, p_tuple_i, p_tuple_s, p_tuple_l, p_tuple_t, p_tuple_d, p_list_n, p_list_b, p_list_i, p_list_s, p_list_l, p_list_t, p_list_d, p_str_n, p_str_b, p_str_i, p_str_s, p_str_l, p_str_t, p_str_d, p_dict_n, p_dict_b, p_dict_i, p_dict_s, p_dict_l, p_dict_t, p_dict_d, Bool.true_or, Bool.or_true, Bool.false_or, Bool.or_false, Bool.true_and, Bool.and_true, Bool.false_and, Bool.and_false, Bool.not_true, Bool.not_false, o_len_l, o_len_t, o_abs, o_max, o_min, o_int, o_intb, o_tup_l, o_tup_t, o_list_l, o_list_t, o_all, o_any, o_divmod, o_max1, o_min1, o_sum1, o_str, o_strs, o_add, o_add_l, o_add_t, o_sub, o_mul, o_mul_l, o_mul_t, o_div, o_mod, o_pow, o_lt, o_le, o_gt, o_ge, o_eq, o_ne, o_nes, o_eqs, o_eqb, o_tn, o_tb, o_ti, o_tl, o_tt, o_ixl, o_ixt, o_sll, o_slt, if_true, if_false, decide_true, decide_false, retOf, Option.map_some, Bool.false_eq_true, Ex.P, truP]
    · simp only [List.map_cons, List.map_nil, List.length_cons, List.length_nil, List.replicate, List.cons_append, List.nil_append, List.getElem?_cons_zero, List.getElem?_cons_succ, List.set_cons_zero, List.set_cons_succ, Nat.reduceAdd, Nat.reduceSub, Nat.zero_add, denSs, denS, denE, denT, denTAnd, denTOr, denAnd, denOr, denEs, denO, denI, Res.bind, Res.bindN, rdd, rd, rds, dat, bol, mkL, dats, itsOf, setIx, isL, apIx, seqOf, setAll, bindT, bindTs, itsAll]
  | .at_ k, d, m, hm, hd, h50 => by
    have q := eq_leaf (.at_ k) (.at_ N) (by simp [Ex.dep])
    refine call_data (f := f21) hm rfl rfl rfl ?_
    generalize callN T (n + d) = call
    generalize (Lf.at_ N).P = L at *
    suffices h : denSs call f21.body [some (.d (Ex.at_ k).P), some (.d L)] m = .ok (.ret (.d (.bool (decide (k = N)))), [some (.d (Ex.at_ k).P), some (.d L)]) m from congrArg retOf h
    by_cases hk : k = N
    · have q : cmpP .Eq (Ex.at_ k).P L = some true := by rw [q]; exact congrArg some (decide_eq_true hk)
      rw [decide_eq_true hk]
      refine seq_ret (iff_t (m1 := m) ?_ (ret_step ?_))
      · simp only [List.map_cons, List.map_nil, List.length_cons, List.length_nil, List.replicate, List.cons_append, List.nil_append, List.getElem?_cons_zero, List.getElem?_cons_succ, List.set_cons_zero, List.set_cons_succ, Nat.reduceAdd, Nat.reduceSub, Nat.zero_add, denSs, denS, denE, denT, denTAnd, denTOr, denAnd, denOr, denEs, denO, denI, Res.bind, Res.bindN, rdd, rd, rds, dat, bol, mkL, dats, itsOf, setIx, isL, apIx, seqOf, setAll, bindT, bindTs, itsAll, q, truP]
      · simp only [List.map_cons, List.map_nil, List.length_cons, List.length_nil, List.replicate, List.cons_append, List.nil_append, List.getElem?_cons_zero, List.getElem?_cons_succ, List.set_cons_zero, List.set_cons_succ, Nat.reduceAdd, Nat.reduceSub, Nat.zero_add, denSs, denS, denE, denT, denTAnd, denTOr, denAnd, denOr, denEs, denO, denI, Res.bind, Res.bindN, rdd, rd, rds, dat, bol, mkL, dats, itsOf, setIx, isL, apIx, seqOf, setAll, bindT, bindTs, itsAll]
    · have q : cmpP .Eq (Ex.at_ k).P L = some false := by rw [q]; exact congrArg some (decide_eq_false hk)
      rw [decide_eq_false hk]
      refine seq_step (iff_n (m1 := m) ?_) (seq_step (iff_n (m1 := m) ?_) (ret_step ?_))
      · simp only [List.map_cons, List.map_nil, List.length_cons, List.length_nil, List.replicate, List.cons_append, List.nil_append, List.getElem?_cons_zero, List.getElem?_cons_succ, List.set_cons_zero, List.set_cons_succ, Nat.reduceAdd, Nat.reduceSub, Nat.zero_add, denSs, denS, denE, denT, denTAnd, denTOr, denAnd, denOr, denEs, denO, denI, Res.bind, Res.bindN, rdd, rd, rds, dat, bol, mkL, dats, itsOf, setIx, isL, apIx, seqOf, setAll, bindT, bindTs, itsAll, q, truP]
      · simp only [List.map_cons, List.map_nil, List.length_cons, List.length_nil, List.replicate, List.cons_append, List.nil_append, List.getElem?_cons_zero, List.getElem?_cons_succ, List.set_cons_zero, List.set_cons_succ, Nat.reduceAdd, Nat.reduceSub, Nat.zero_add, denSs, denS, denE, denT, denTAnd, denTOr, denAnd, denOr, denEs, denO, denI, Res.bind, Res.bindN, rdd, rd, rds, dat, bol, mkL, dats, itsOf, setIx, isL, apIx, seqOf, setAll, bindT, bindTs, itsAll, p_int_n, p_int_b, p_int_i, p_int_s, p_int_l, p_int_t, p_int_d, p_bool_n, p_bool_b, p_bool_i, p_bool_s, p_bool_l, p_bool_t, p_bool_d, p_tuple_n, p_tuple_b, p_tuple_i, p_tuple_s, p_tuple_l, p_tuple_t, p_tuple_d, p_list_n, p_list_b, p_list_i, p_list_s, p_list_l, p_list_t, p_list_d, p_str_n, p_str_b, p_str_i, p_str_s, p_str_l, p_str_t, p_str_d, p_dict_n, p_dict_b, p_dict_i, p_dict_s, p_dict_l, p_dict_t, p_dict_d, Bool.true_or, Bool.or_true, Bool.false_or, Bool.or_false, Bool.true_and, Bool.and_true, Bool.false_and, Bool.and_false, Bool.not_true, Bool.not_false, o_len_l, o_len_t, o_abs, o_max, o_min, o_int, o_intb, o_tup_l, o_tup_t, o_list_l, o_list_t, o_all, o_any, o_divmod, o_max1, o_min1, o_sum1, o_str, o_strs, o_add, o_add_l, o_add_t, o_sub, o_mul, o_mul_l, o_mul_t, o_div, o_mod, o_pow, o_lt, o_le, o_gt, o_ge, o_eq, o_ne, o_nes, o_eqs, o_eqb, o_tn, o_tb, o_ti, o_tl, o_tt, o_ixl, o_ixt, o_sll, o_slt, if_true, if_false, decide_true, decide_false, retOf, Option.map_some, Bool.false_eq_true, Ex.P, truP, l13, l23, l33]
      · simp only [List.map_cons, List.map_nil, List.length_cons, List.length_nil, List.replicate, List.cons_append, List.nil_append, List.getElem?_cons_zero, List.getElem?_cons_succ, List.set_cons_zero, List.set_cons_succ, Nat.reduceAdd, Nat.reduceSub, Nat.zero_add, denSs, denS, denE, denT, denTAnd, denTOr, denAnd, denOr, denEs, denO, denI, Res.bind, Res.bindN, rdd, rd, rds, dat, bol, mkL, dats, itsOf, setIx, isL, apIx, seqOf, setAll, bindT, bindTs, itsAll]
  | .was, d, m, hm, hd, h50 => by
    have q := eq_leaf .was (.at_ N) (by simp [Ex.dep])
    refine call_data (f := f21) hm rfl rfl rfl ?_
    generalize callN T (n + d) = call
    generalize (Lf.at_ N).P = L at *
    suffices h : denSs call f21.body [some (.d Ex.was.P), some (.d L)] m = .ok (.ret (.d (.bool false)), [some (.d Ex.was.P), some (.d L)]) m from congrArg retOf h
    refine seq_step (iff_n (m1 := m) ?_) (seq_step (iff_n (m1 := m) ?_) (ret_step ?_))
    · simp only [List.map_cons, List.map_nil, List.length_cons, List.length_nil, List.replicate, List.cons_append, List.nil_append, List.getElem?_cons_zero, List.getElem?_cons_succ, List.set_cons_zero, List.set_cons_succ, Nat.reduceAdd, Nat.reduceSub, Nat.zero_add, denSs, denS, denE, denT, denTAnd, denTOr, denAnd, denOr, denEs, denO, denI, Res.bind, Res.bindN, rdd, rd, rds, dat, bol, mkL, dats, itsOf, setIx, isL, apIx, seqOf, setAll, bindT, bindTs, itsAll, q, Ex.isL, truP]
    · simp only [List.map_cons, List.map_nil, List.length_cons, List.length_nil, List.replicate, List.cons_append, List.nil_append, List.getElem?_cons_zero, List.getElem?_cons_succ, List.set_cons_zero, List.set_cons_succ, Nat.reduceAdd, Nat.reduceSub, Nat.zero_add, denSs, denS, denE, denT, denTAnd, denTOr, denAnd, denOr, denEs, denO, denI, Res.bind, Res.bindN, rdd, rd, rds, dat, bol, mkL, dats, itsOf, setIx, isL, apIx, seqOf, setAll, bindT, bindTs, itsAll, p_int_n, p_int_b, p_int_i, p_int_s, p_int_l, p_int_t, p_int_d, p_bool_n, p_bool_b, p_bool_i, p_bool_s, p_bool_l, p_bool_t, p_bool_d, p_tuple_n, p_tuple_b, p_tuple_i, p_tuple_s, p_tuple_l, p_tuple_t, p_tuple_d, p_list_n, p_list_b, p_list_i, p_list_s, p_list_l, p_list_t, p_list_d, p_str_n, p_str_b, p_str_i, p_str_s, p_str_l, p_str_t, p_str_d, p_dict_n, p_dict_b, p_dict_i, p_dict_s, p_dict_l, p_dict_t, p_dict_d, Bool.true_or, Bool.or_true, Bool.false_or, Bool.or_false, Bool.true_and, Bool.and_true, Bool.false_and, Bool.and_false, Bool.not_true, Bool.not_false, o_len_l, o_len_t, o_abs, o_max, o_min, o_int, o_intb, o_tup_l, o_tup_t, o_list_l, o_list_t, o_all, o_any, o_divmod, o_max1, o_min1, o_sum1, o_str, o_strs, o_add, o_add_l, o_add_t, o_sub, o_mul, o_mul_l, o_mul_t, o_div, o_mod, o_pow, o_lt, o_le, o_gt, o_ge, o_eq, o_ne, o_nes, o_eqs, o_eqb, o_tn, o_tb, o_ti, o_tl, o_tt, o_ixl, o_ixt, o_sll, o_slt, if_true, if_false, decide_true, decide_false, retOf, Option.map_some, Bool.false_eq_true, Ex.P, truP, l13, l23, l33]
    · simp only [List.map_cons, List.map_nil, List.length_cons, List.length_nil, List.replicate, List.cons_append, List.nil_append, List.getElem?_cons_zero, List.getElem?_cons_succ, List.set_cons_zero, List.set_cons_succ, Nat.reduceAdd, Nat.reduceSub, Nat.zero_add, denSs, denS, denE, denT, denTAnd, denTOr, denAnd, denOr, denEs, denO, denI, Res.bind, Res.bindN, rdd, rd, rds, dat, bol, mkL, dats, itsOf, setIx, isL, apIx, seqOf, setAll, bindT, bindTs, itsAll]
  | .op o a b, d, m, hm, hd, h50 => by
    obtain ⟨d, rfl⟩ : ∃ d', d = d' + 1 := ⟨d - 1, by simp only [Ex.dep] at hd; omega⟩
    have da : a.dep ≤ d := by simp only [Ex.dep] at hd; omega
    have db : b.dep ≤ d := by simp only [Ex.dep] at hd; omega
    have q := eq_leaf (.op o a b) (.at_ N) (by omega)
    have ia := r_has n N a d m hm da (by omega)
    have ib := r_has n N b d m hm db (by omega)
    refine call_data (f := f21) hm rfl rfl rfl ?_
    rw [show n + (d + 1) = n + d + 1 from rfl]
    generalize callN T (n + d + 1) = call at *
    generalize (Lf.at_ N).P = L at *
    suffices h : denSs call f21.body [some (.d (Ex.op o a b).P), some (.d L)] m = .ok (.ret (.d (.bool (a.has N || b.has N))), [some (.d (Ex.op o a b).P), some (.d L)]) m from congrArg retOf h
    refine seq_step (iff_n (m1 := m) ?_) (seq_ret (iff_t (m1 := m) ?_ (ret_step ?_)))
    · simp only [List.map_cons, List.map_nil, List.length_cons, List.length_nil, List.replicate, List.cons_append, List.nil_append, List.getElem?_cons_zero, List.getElem?_cons_succ, List.set_cons_zero, List.set_cons_succ, Nat.reduceAdd, Nat.reduceSub, Nat.zero_add, denSs, denS, denE, denT, denTAnd, denTOr, denAnd, denOr, denEs, denO, denI, Res.bind, Res.bindN, rdd, rd, rds, dat, bol, mkL, dats, itsOf, setIx, isL, apIx, seqOf, setAll, bindT, bindTs, itsAll, q, Ex.isL, truP]
    · simp only [List.map_cons, List.map_nil, List.length_cons, List.length_nil, List.replicate, List.cons_append, List.nil_append, List.getElem?_cons_zero, List.getElem?_cons_succ, List.set_cons_zero, List.set_cons_succ, Nat.reduceAdd, Nat.reduceSub, Nat.zero_add, denSs, denS, denE, denT, denTAnd, denTOr, denAnd, denOr, denEs, denO, denI, Res.bind, Res.bindN, rdd, rd, rds, dat, bol, mkL, dats, itsOf, setIx, isL, apIx, seqOf, setAll, bindT, bindTs, itsAll, p_int_n, p_int_b, p_int_i, p_int_s, p_int_l, p_int_t, p_int_d, p_bool_n, p_bool_b, p_bool_i, p_bool_s, p_bool_l, p_bool_t, p_bool_d, p_tuple_n, p_tuple_b, p_tuple_i, p_tuple_s, p_tuple_l, p_tuple_t, p_tuple_d, p_list_n, p_list_b, p_list_i, p_list_s, p_list_l, p_list_t, p_list_d, p_str_n, p_str_b, p_str_i, p_str_s, p_str_l, p_str_t, p_str_d, p_dict_n, p_dict_b, p_dict_i, p_dict_s, p_dict_l, p_dict_t, p_dict_d, Bool.true_or, Bool.or_true, Bool.false_or, Bool.or_false, Bool.true_and, Bool.and_true, Bool.false_and, Bool.and_false, Bool.not_true, Bool.not_false, o_len_l, o_len_t, o_abs, o_max, o_min, o_int, o_intb, o_tup_l, o_tup_t, o_list_l, o_list_t, o_all, o_any, o_divmod, o_max1, o_min1, o_sum1, o_str, o_strs, o_add, o_add_l, o_add_t, o_sub, o_mul, o_mul_l, o_mul_t, o_div, o_mod, o_pow, o_lt, o_le, o_gt, o_ge, o_eq, o_ne, o_nes, o_eqs, o_eqb, o_tn, o_tb, o_ti, o_tl, o_tt, o_ixl, o_ixt, o_sll, o_slt, if_true, if_false, decide_true, decide_false, retOf, Option.map_some, Bool.false_eq_true, Ex.P, truP, l13, l23, l33]
    · cases ha : a.has N with
      | true =>
        rw [ha] at ia
        simp only [List.map_cons, List.map_nil, List.length_cons, List.length_nil, List.replicate, List.cons_append, List.nil_append, List.getElem?_cons_zero, List.getElem?_cons_succ, List.set_cons_zero, List.set_cons_succ, Nat.reduceAdd, Nat.reduceSub, Nat.zero_add, denSs, denS, denE, denT, denTAnd, denTOr, denAnd, denOr, denEs, denO, denI, Res.bind, Res.bindN, rdd, rd, rds, dat, bol, mkL, dats, itsOf, setIx, isL, apIx, seqOf, setAll, bindT, bindTs, itsAll, p_int_n, p_int_b, p_int_i, p_int_s, p_int_l, p_int_t, p_int_d, p_bool_n, p_bool_b, p_bool_i, p_bool_s, p_bool_l, p_bool_t, p_bool_d, p_tuple_n, p_tuple_b, p_tuple_i, p_tuple_s, p_tuple_l, p_tuple_t, p_tuple_d, p_list_n, p_list_b, p_list_i, p_list_s, p_list_l, p_list_t, p_list_d, p_str_n, p_str_b, p_str_i, p_str_s, p_str_l, p_str_t, p_str_d, p_dict_n, p_dict_b, p_dict_i, p_dict_s, p_dict_l, p_dict_t, p_dict_d, Bool.true_or, Bool.or_true, Bool.false_or, Bool.or_false, Bool.true_and, Bool.and_true, Bool.false_and, Bool.and_false, Bool.not_true, Bool.not_false, o_len_l, o_len_t, o_abs, o_max, o_min, o_int, o_intb, o_tup_l, o_tup_t, o_list_l, o_list_t, o_all, o_any, o_divmod, o_max1, o_min1, o_sum1, o_str, o_strs, o_add, o_add_l, o_add_t, o_sub, o_mul, o_mul_l, o_mul_t, o_div, o_mod, o_pow, o_lt, o_le, o_gt, o_ge, o_eq, o_ne, o_nes, o_eqs, o_eqb, o_tn, o_tb, o_ti, o_tl, o_tt, o_ixl, o_ixt, o_sll, o_slt, if_true, if_false, decide_true, decide_false, retOf, Option.map_some, Bool.false_eq_true, Ex.P, a3_1, ia, truP]
      | false =>
        rw [ha] at ia
        simp only [List.map_cons, List.map_nil, List.length_cons, List.length_nil, List.replicate, List.cons_append, List.nil_append, List.getElem?_cons_zero, List.getElem?_cons_succ, List.set_cons_zero, List.set_cons_succ, Nat.reduceAdd, Nat.reduceSub, Nat.zero_add, denSs, denS, denE, denT, denTAnd, denTOr, denAnd, denOr, denEs, denO, denI, Res.bind, Res.bindN, rdd, rd, rds, dat, bol, mkL, dats, itsOf, setIx, isL, apIx, seqOf, setAll, bindT, bindTs, itsAll, p_int_n, p_int_b, p_int_i, p_int_s, p_int_l, p_int_t, p_int_d, p_bool_n, p_bool_b, p_bool_i, p_bool_s, p_bool_l, p_bool_t, p_bool_d, p_tuple_n, p_tuple_b, p_tuple_i, p_tuple_s, p_tuple_l, p_tuple_t, p_tuple_d, p_list_n, p_list_b, p_list_i, p_list_s, p_list_l, p_list_t, p_list_d, p_str_n, p_str_b, p_str_i, p_str_s, p_str_l, p_str_t, p_str_d, p_dict_n, p_dict_b, p_dict_i, p_dict_s, p_dict_l, p_dict_t, p_dict_d, Bool.true_or, Bool.or_true, Bool.false_or, Bool.or_false, Bool.true_and, Bool.and_true, Bool.false_and, Bool.and_false, Bool.not_true, Bool.not_false, o_len_l, o_len_t, o_abs, o_max, o_min, o_int, o_intb, o_tup_l, o_tup_t, o_list_l, o_list_t, o_all, o_any, o_divmod, o_max1, o_min1, o_sum1, o_str, o_strs, o_add, o_add_l, o_add_t, o_sub, o_mul, o_mul_l, o_mul_t, o_div, o_mod, o_pow, o_lt, o_le, o_gt, o_ge, o_eq, o_ne, o_nes, o_eqs, o_eqb, o_tn, o_tb, o_ti, o_tl, o_tt, o_ixl, o_ixt, o_sll, o_slt, if_true, if_false, decide_true, decide_false, retOf, Option.map_some, Bool.false_eq_true, Ex.P, a3_1, a3_2, ia, ib, truP]
/-! ### _law_put -/
def Ex.putL (l : Lf) : Ex → Ex → Ex
  | .num i, _ => .num i
  | .at_ k, o => if (Ex.at_ k).isL l = true then o else .at_ k
  | .was, o => if Ex.was.isL l = true then o else .was
  | .op p a b, o => .op p (a.putL l o) (b.putL l o)
theorem putL_at (n : Nat) (o : Ex) : ∀ e : Ex, e.putL (.at_ n) o = e.put n o
  | .num _ => rfl
  | .at_ k => by
    simp only [Ex.putL, Ex.put, Ex.isL, decide_eq_true_eq]
  | .was => rfl
  | .op p a b => by simp only [Ex.putL, Ex.put, putL_at n o a, putL_at n o b]
theorem putL_was (s : Int) : ∀ e : Ex, e.putL .was (.num s) = e.putW s
  | .num _ => rfl
  | .at_ k => rfl
  | .was => rfl
  | .op p a b => by simp only [Ex.putL, Ex.putW, putL_was s a, putL_was s b]
theorem r_put (n : Nat) (l : Lf) (o : Ex) : ∀ (e : Ex) (d : Nat) (m : Mem), LD m → e.dep ≤ d → d ≤ 50 → callN T (n + d + 1) 22 [.d e.P, .d l.P, .d o.P] m = .ok (.d (e.putL l o).P) m
  | .num i, d, m, hm, hd, h50 => by
    have q := eq_leaf (.num i) l (by simp [Ex.dep])
    rw [show (Ex.num i).isL l = false from by cases l <;> rfl] at q
    refine call_data (f := f22) hm rfl rfl rfl ?_
    generalize callN T (n + d) = call
    generalize l.P = L at *
    generalize o.P = O at *
    suffices h : denSs call f22.body [some (.d (Ex.num i).P), some (.d L), some (.d O)] m = .ok (.ret (.d (Ex.num i).P), [some (.d (Ex.num i).P), some (.d L), some (.d O)]) m from congrArg retOf h
    refine seq_step (iff_n (m1 := m) ?_) (seq_step (iff_n (m1 := m) ?_) (ret_step ?_))
    · simp only [List.map_cons, List.map_nil, List.length_cons, List.length_nil, List.replicate, List.cons_append, List.nil_append, List.getElem?_cons_zero, List.getElem?_cons_succ, List.set_cons_zero, List.set_cons_succ, Nat.reduceAdd, Nat.reduceSub, Nat.zero_add, denSs, denS, denE, denT, denTAnd, denTOr, denAnd, denOr, denEs, denO, denI, Res.bind, Res.bindN, rdd, rd, rds, dat, bol, mkL, dats, itsOf, setIx, isL, apIx, seqOf, setAll, bindT, bindTs, itsAll, q, truP]
    · simp only [List.map_cons, List.map_nil, List.length_cons, List.length_nil, List.replicate, List.cons_append, List.nil_append, List.getElem?_cons_zero, List.getElem?_cons_succ, List.set_cons_zero, List.set_cons_succ, Nat.reduceAdd, Nat.reduceSub, Nat.zero_add, denSs, denS, denE, denT, denTAnd, denTOr, denAnd, denOr, denEs, denO, denI, Res.bind, Res.bindN, rdd, rd, rds, dat, bol, mkL, dats, itsOf, setIx, isL, apIx, seqOf, setAll, bindT, bindTs, itsAll, p_int_n, p_int_b, p_int_i, p_int_s, p_int_l, p_int_t, p_int_d, p_bool_n, p_bool_b, p_bool_i, p_bool_s, p_bool_l, p_bool_t, p_bool_d, p_tuple_n, p_tuple_b, p_tuple_i, p_tuple_s, p_tuple_l, p_tuple_t, p_tuple_d, p_list_n, p_list_b, p_list_i, p_list_s, p_list_l, p_list_t, p_list_d, p_str_n, p_str_b, p_str_i, p_str_s, p_str_l, p_str_t, p_str_d, p_dict_n, p_dict_b, p_dict_i, p_dict_s, p_dict_l, p_dict_t, p_dict_d, Bool.true_or, Bool.or_true, Bool.false_or, Bool.or_false, Bool.true_and, Bool.and_true, Bool.false_and, Bool.and_false, Bool.not_true, Bool.not_false, o_len_l, o_len_t, o_abs, o_max, o_min, o_int, o_intb, o_tup_l, o_tup_t, o_list_l, o_list_t, o_all, o_any, o_divmod, o_max1, o_min1, o_sum1, o_str, o_strs, o_add, o_add_l, o_add_t, o_sub, o_mul, o_mul_l, o_mul_t, o_div, o_mod, o_pow, o_lt, o_le, o_gt, o_ge, o_eq, o_ne, o_nes, o_eqs, o_eqb, o_tn, o_tb, o_ti, o_tl, o_tt, o_ixl, o_ixt, o_sll, o_slt, if_true, if_false, decide_true, decide_false, retOf, Option.map_some, Bool.false_eq_true, Ex.P, truP]
    · simp only [List.map_cons, List.map_nil, List.length_cons, List.length_nil, List.replicate, List.cons_append, List.nil_append, List.getElem?_cons_zero, List.getElem?_cons_succ, List.set_cons_zero, List.set_cons_succ, Nat.reduceAdd, Nat.reduceSub, Nat.zero_add, denSs, denS, denE, denT, denTAnd, denTOr, denAnd, denOr, denEs, denO, denI, Res.bind, Res.bindN, rdd, rd, rds, dat, bol, mkL, dats, itsOf, setIx, isL, apIx, seqOf, setAll, bindT, bindTs, itsAll]
  | .at_ k, d, m, hm, hd, h50 => by
    have q := eq_leaf (.at_ k) l (by simp [Ex.dep])
    refine call_data (f := f22) hm rfl rfl rfl ?_
    simp only [Ex.putL]
    generalize callN T (n + d) = call
    cases hb : (Ex.at_ k).isL l with
    | true =>
      rw [hb] at q
      rw [if_pos rfl]
      generalize l.P = L at *
      generalize o.P = O at *
      suffices h : denSs call f22.body [some (.d (Ex.at_ k).P), some (.d L), some (.d O)] m = .ok (.ret (.d O), [some (.d (Ex.at_ k).P), some (.d L), some (.d O)]) m from congrArg retOf h
      refine seq_ret (iff_t (m1 := m) ?_ (ret_step ?_))
      · simp only [List.map_cons, List.map_nil, List.length_cons, List.length_nil, List.replicate, List.cons_append, List.nil_append, List.getElem?_cons_zero, List.getElem?_cons_succ, List.set_cons_zero, List.set_cons_succ, Nat.reduceAdd, Nat.reduceSub, Nat.zero_add, denSs, denS, denE, denT, denTAnd, denTOr, denAnd, denOr, denEs, denO, denI, Res.bind, Res.bindN, rdd, rd, rds, dat, bol, mkL, dats, itsOf, setIx, isL, apIx, seqOf, setAll, bindT, bindTs, itsAll, p_int_n, p_int_b, p_int_i, p_int_s, p_int_l, p_int_t, p_int_d, p_bool_n, p_bool_b, p_bool_i, p_bool_s, p_bool_l, p_bool_t, p_bool_d, p_tuple_n, p_tuple_b, p_tuple_i, p_tuple_s, p_tuple_l, p_tuple_t, p_tuple_d, p_list_n, p_list_b, p_list_i, p_list_s, p_list_l, p_list_t, p_list_d, p_str_n, p_str_b, p_str_i, p_str_s, p_str_l, p_str_t, p_str_d, p_dict_n, p_dict_b, p_dict_i, p_dict_s, p_dict_l, p_dict_t, p_dict_d, Bool.true_or, Bool.or_true, Bool.false_or, Bool.or_false, Bool.true_and, Bool.and_true, Bool.false_and, Bool.and_false, Bool.not_true, Bool.not_false, o_len_l, o_len_t, o_abs, o_max, o_min, o_int, o_intb, o_tup_l, o_tup_t, o_list_l, o_list_t, o_all, o_any, o_divmod, o_max1, o_min1, o_sum1, o_str, o_strs, o_add, o_add_l, o_add_t, o_sub, o_mul, o_mul_l, o_mul_t, o_div, o_mod, o_pow, o_lt, o_le, o_gt, o_ge, o_eq, o_ne, o_nes, o_eqs, o_eqb, o_tn, o_tb, o_ti, o_tl, o_tt, o_ixl, o_ixt, o_sll, o_slt, if_true, if_false, decide_true, decide_false, retOf, Option.map_some, Bool.false_eq_true, q, truP, show isP "int" (Ex.at_ k).P = false from rfl]
      · simp only [List.map_cons, List.map_nil, List.length_cons, List.length_nil, List.replicate, List.cons_append, List.nil_append, List.getElem?_cons_zero, List.getElem?_cons_succ, List.set_cons_zero, List.set_cons_succ, Nat.reduceAdd, Nat.reduceSub, Nat.zero_add, denSs, denS, denE, denT, denTAnd, denTOr, denAnd, denOr, denEs, denO, denI, Res.bind, Res.bindN, rdd, rd, rds, dat, bol, mkL, dats, itsOf, setIx, isL, apIx, seqOf, setAll, bindT, bindTs, itsAll]
    | false =>
      rw [hb] at q
      rw [if_neg Bool.false_ne_true]
      generalize l.P = L at *
      generalize o.P = O at *
      suffices h : denSs call f22.body [some (.d (Ex.at_ k).P), some (.d L), some (.d O)] m = .ok (.ret (.d (Ex.at_ k).P), [some (.d (Ex.at_ k).P), some (.d L), some (.d O)]) m from congrArg retOf h
      refine seq_step (iff_n (m1 := m) ?_) (seq_step (iff_n (m1 := m) ?_) (ret_step ?_))
      · simp only [List.map_cons, List.map_nil, List.length_cons, List.length_nil, List.replicate, List.cons_append, List.nil_append, List.getElem?_cons_zero, List.getElem?_cons_succ, List.set_cons_zero, List.set_cons_succ, Nat.reduceAdd, Nat.reduceSub, Nat.zero_add, denSs, denS, denE, denT, denTAnd, denTOr, denAnd, denOr, denEs, denO, denI, Res.bind, Res.bindN, rdd, rd, rds, dat, bol, mkL, dats, itsOf, setIx, isL, apIx, seqOf, setAll, bindT, bindTs, itsAll, q, truP]
      · simp only [List.map_cons, List.map_nil, List.length_cons, List.length_nil, List.replicate, List.cons_append, List.nil_append, List.getElem?_cons_zero, List.getElem?_cons_succ, List.set_cons_zero, List.set_cons_succ, Nat.reduceAdd, Nat.reduceSub, Nat.zero_add, denSs, denS, denE, denT, denTAnd, denTOr, denAnd, denOr, denEs, denO, denI, Res.bind, Res.bindN, rdd, rd, rds, dat, bol, mkL, dats, itsOf, setIx, isL, apIx, seqOf, setAll, bindT, bindTs, itsAll, p_int_n, p_int_b, p_int_i, p_int_s, p_int_l, p_int_t, p_int_d, p_bool_n, p_bool_b, p_bool_i, p_bool_s, p_bool_l, p_bool_t, p_bool_d, p_tuple_n, p_tuple_b, p_tuple_i, p_tuple_s, p_tuple_l, p_tuple_t, p_tuple_d, p_list_n, p_list_b, p_list_i, p_list_s, p_list_l, p_list_t, p_list_d, p_str_n, p_str_b, p_str_i, p_str_s, p_str_l, p_str_t, p_str_d, p_dict_n, p_dict_b, p_dict_i, p_dict_s, p_dict_l, p_dict_t, p_dict_d, Bool.true_or, Bool.or_true, Bool.false_or, Bool.or_false, Bool.true_and, Bool.and_true, Bool.false_and, Bool.and_false, Bool.not_true, Bool.not_false, o_len_l, o_len_t, o_abs, o_max, o_min, o_int, o_intb, o_tup_l, o_tup_t, o_list_l, o_list_t, o_all, o_any, o_divmod, o_max1, o_min1, o_sum1, o_str, o_strs, o_add, o_add_l, o_add_t, o_sub, o_mul, o_mul_l, o_mul_t, o_div, o_mod, o_pow, o_lt, o_le, o_gt, o_ge, o_eq, o_ne, o_nes, o_eqs, o_eqb, o_tn, o_tb, o_ti, o_tl, o_tt, o_ixl, o_ixt, o_sll, o_slt, if_true, if_false, decide_true, decide_false, retOf, Option.map_some, Bool.false_eq_true, Ex.P, truP, l13, l23, l33]
      · simp only [List.map_cons, List.map_nil, List.length_cons, List.length_nil, List.replicate, List.cons_append, List.nil_append, List.getElem?_cons_zero, List.getElem?_cons_succ, List.set_cons_zero, List.set_cons_succ, Nat.reduceAdd, Nat.reduceSub, Nat.zero_add, denSs, denS, denE, denT, denTAnd, denTOr, denAnd, denOr, denEs, denO, denI, Res.bind, Res.bindN, rdd, rd, rds, dat, bol, mkL, dats, itsOf, setIx, isL, apIx, seqOf, setAll, bindT, bindTs, itsAll]
  | .was, d, m, hm, hd, h50 => by
    have q := eq_leaf .was l (by simp [Ex.dep])
    refine call_data (f := f22) hm rfl rfl rfl ?_
    simp only [Ex.putL]
    generalize callN T (n + d) = call
    cases hb : Ex.was.isL l with
    | true =>
      rw [hb] at q
      rw [if_pos rfl]
      generalize l.P = L at *
      generalize o.P = O at *
      suffices h : denSs call f22.body [some (.d Ex.was.P), some (.d L), some (.d O)] m = .ok (.ret (.d O), [some (.d Ex.was.P), some (.d L), some (.d O)]) m from congrArg retOf h
      refine seq_ret (iff_t (m1 := m) ?_ (ret_step ?_))
      · simp only [List.map_cons, List.map_nil, List.length_cons, List.length_nil, List.replicate, List.cons_append, List.nil_append, List.getElem?_cons_zero, List.getElem?_cons_succ, List.set_cons_zero, List.set_cons_succ, Nat.reduceAdd, Nat.reduceSub, Nat.zero_add, denSs, denS, denE, denT, denTAnd, denTOr, denAnd, denOr, denEs, denO, denI, Res.bind, Res.bindN, rdd, rd, rds, dat, bol, mkL, dats, itsOf, setIx, isL, apIx, seqOf, setAll, bindT, bindTs, itsAll, p_int_n, p_int_b, p_int_i, p_int_s, p_int_l, p_int_t, p_int_d, p_bool_n, p_bool_b, p_bool_i, p_bool_s, p_bool_l, p_bool_t, p_bool_d, p_tuple_n, p_tuple_b, p_tuple_i, p_tuple_s, p_tuple_l, p_tuple_t, p_tuple_d, p_list_n, p_list_b, p_list_i, p_list_s, p_list_l, p_list_t, p_list_d, p_str_n, p_str_b, p_str_i, p_str_s, p_str_l, p_str_t, p_str_d, p_dict_n, p_dict_b, p_dict_i, p_dict_s, p_dict_l, p_dict_t, p_dict_d, Bool.true_or, Bool.or_true, Bool.false_or, Bool.or_false, Bool.true_and, Bool.and_true, Bool.false_and, Bool.and_false, Bool.not_true, Bool.not_false, o_len_l, o_len_t, o_abs, o_max, o_min, o_int, o_intb, o_tup_l, o_tup_t, o_list_l, o_list_t, o_all, o_any, o_divmod, o_max1, o_min1, o_sum1, o_str, o_strs, o_add, o_add_l, o_add_t, o_sub, o_mul, o_mul_l, o_mul_t, o_div, o_mod, o_pow, o_lt, o_le, o_gt, o_ge, o_eq, o_ne, o_nes, o_eqs, o_eqb, o_tn, o_tb, o_ti, o_tl, o_tt, o_ixl, o_ixt, o_sll, o_slt, if_true, if_false, decide_true, decide_false, retOf, Option.map_some, Bool.false_eq_true, q, truP, show isP "int" Ex.was.P = false from rfl]
      · simp only [List.map_cons, List.map_nil, List.length_cons, List.length_nil, List.replicate, List.cons_append, List.nil_append, List.getElem?_cons_zero, List.getElem?_cons_succ, List.set_cons_zero, List.set_cons_succ, Nat.reduceAdd, Nat.reduceSub, Nat.zero_add, denSs, denS, denE, denT, denTAnd, denTOr, denAnd, denOr, denEs, denO, denI, Res.bind, Res.bindN, rdd, rd, rds, dat, bol, mkL, dats, itsOf, setIx, isL, apIx, seqOf, setAll, bindT, bindTs, itsAll]
    | false =>
      rw [hb] at q
      rw [if_neg Bool.false_ne_true]
      generalize l.P = L at *
      generalize o.P = O at *
      suffices h : denSs call f22.body [some (.d Ex.was.P), some (.d L), some (.d O)] m = .ok (.ret (.d Ex.was.P), [some (.d Ex.was.P), some (.d L), some (.d O)]) m from congrArg retOf h
      refine seq_step (iff_n (m1 := m) ?_) (seq_step (iff_n (m1 := m) ?_) (ret_step ?_))
      · simp only [List.map_cons, List.map_nil, List.length_cons, List.length_nil, List.replicate, List.cons_append, List.nil_append, List.getElem?_cons_zero, List.getElem?_cons_succ, List.set_cons_zero, List.set_cons_succ, Nat.reduceAdd, Nat.reduceSub, Nat.zero_add, denSs, denS, denE, denT, denTAnd, denTOr, denAnd, denOr, denEs, denO, denI, Res.bind, Res.bindN, rdd, rd, rds, dat, bol, mkL, dats, itsOf, setIx, isL, apIx, seqOf, setAll, bindT, bindTs, itsAll, q, truP]
      · simp only [List.map_cons, List.map_nil, List.length_cons, List.length_nil, List.replicate, List.cons_append, List.nil_append, List.getElem?_cons_zero, List.getElem?_cons_succ, List.set_cons_zero, List.set_cons_succ, Nat.reduceAdd, Nat.reduceSub, Nat.zero_add, denSs, denS, denE, denT, denTAnd, denTOr, denAnd, denOr, denEs, denO, denI, Res.bind, Res.bindN, rdd, rd, rds, dat, bol, mkL, dats, itsOf, setIx, isL, apIx, seqOf, setAll, bindT, bindTs, itsAll, p_int_n, p_int_b, p_int_i, p_int_s, p_int_l, p_int_t, p_int_d, p_bool_n, p_bool_b, p_bool_i, p_bool_s, p_bool_l, p_bool_t, p_bool_d, p_tuple_n, p_tuple_b, p_tuple_i, p_tuple_s, p_tuple_l, p_tuple_t, p_tuple_d, p_list_n, p_list_b, p_list_i, p_list_s, p_list_l, p_list_t, p_list_d, p_str_n, p_str_b, p_str_i, p_str_s, p_str_l, p_str_t, p_str_d, p_dict_n, p_dict_b, p_dict_i, p_dict_s, p_dict_l, p_dict_t, p_dict_d, Bool.true_or, Bool.or_true, Bool.false_or, Bool.or_false, Bool.true_and, Bool.and_true, Bool.false_and, Bool.and_false, Bool.not_true, Bool.not_false, o_len_l, o_len_t, o_abs, o_max, o_min, o_int, o_intb, o_tup_l, o_tup_t, o_list_l, o_list_t, o_all, o_any, o_divmod, o_max1, o_min1, o_sum1, o_str, o_strs, o_add, o_add_l, o_add_t, o_sub, o_mul, o_mul_l, o_mul_t, o_div, o_mod, o_pow, o_lt, o_le, o_gt, o_ge, o_eq, o_ne, o_nes, o_eqs, o_eqb, o_tn, o_tb, o_ti, o_tl, o_tt, o_ixl, o_ixt, o_sll, o_slt, if_true, if_false, decide_true, decide_false, retOf, Option.map_some, Bool.false_eq_true, Ex.P, truP, l13, l23, l33]
      · simp only [List.map_cons, List.map_nil, List.length_cons, List.length_nil, List.replicate, List.cons_append, List.nil_append, List.getElem?_cons_zero, List.getElem?_cons_succ, List.set_cons_zero, List.set_cons_succ, Nat.reduceAdd, Nat.reduceSub, Nat.zero_add, denSs, denS, denE, denT, denTAnd, denTOr, denAnd, denOr, denEs, denO, denI, Res.bind, Res.bindN, rdd, rd, rds, dat, bol, mkL, dats, itsOf, setIx, isL, apIx, seqOf, setAll, bindT, bindTs, itsAll]
  | .op p a b, d, m, hm, hd, h50 => by
    obtain ⟨d, rfl⟩ : ∃ d', d = d' + 1 := ⟨d - 1, by simp only [Ex.dep] at hd; omega⟩
    have da : a.dep ≤ d := by simp only [Ex.dep] at hd; omega
    have db : b.dep ≤ d := by simp only [Ex.dep] at hd; omega
    have q := eq_leaf (.op p a b) l (by omega)
    rw [show (Ex.op p a b).isL l = false from by cases l <;> rfl] at q
    have ia := r_put n l o a d m hm da (by omega)
    have ib := r_put n l o b d m hm db (by omega)
    refine call_data (f := f22) hm rfl rfl rfl ?_
    rw [show n + (d + 1) = n + d + 1 from rfl]
    simp only [Ex.putL]
    generalize callN T (n + d + 1) = call at *
    generalize l.P = L at *
    generalize o.P = O at *
    suffices h : denSs call f22.body [some (.d (Ex.op p a b).P), some (.d L), some (.d O)] m = .ok (.ret (.d (Ex.op p (a.putL l o) (b.putL l o)).P), [some (.d (Ex.op p a b).P), some (.d L), some (.d O)]) m from congrArg retOf h
    refine seq_step (iff_n (m1 := m) ?_) (seq_ret (iff_t (m1 := m) ?_ (ret_step ?_)))
    · simp only [List.map_cons, List.map_nil, List.length_cons, List.length_nil, List.replicate, List.cons_append, List.nil_append, List.getElem?_cons_zero, List.getElem?_cons_succ, List.set_cons_zero, List.set_cons_succ, Nat.reduceAdd, Nat.reduceSub, Nat.zero_add, denSs, denS, denE, denT, denTAnd, denTOr, denAnd, denOr, denEs, denO, denI, Res.bind, Res.bindN, rdd, rd, rds, dat, bol, mkL, dats, itsOf, setIx, isL, apIx, seqOf, setAll, bindT, bindTs, itsAll, q, truP]
    · simp only [List.map_cons, List.map_nil, List.length_cons, List.length_nil, List.replicate, List.cons_append, List.nil_append, List.getElem?_cons_zero, List.getElem?_cons_succ, List.set_cons_zero, List.set_cons_succ, Nat.reduceAdd, Nat.reduceSub, Nat.zero_add, denSs, denS, denE, denT, denTAnd, denTOr, denAnd, denOr, denEs, denO, denI, Res.bind, Res.bindN, rdd, rd, rds, dat, bol, mkL, dats, itsOf, setIx, isL, apIx, seqOf, setAll, bindT, bindTs, itsAll, p_int_n, p_int_b, p_int_i, p_int_s, p_int_l, p_int_t, p_int_d, p_bool_n, p_bool_b, p_bool_i, p_bool_s, p_bool_l, p_bool_t, p_bool_d, p_tuple_n, p_tuple_b, p_tuple_i, p_tuple_s, p_tuple_l, p_tuple_t, p_tuple_d, p_list_n, p_list_b, p_list_i, p_list_s, p_list_l, p_list_t, p_list_d, p_str_n, p_str_b, p_str_i, p_str_s, p_str_l, p_str_t, p_str_d, p_dict_n, p_dict_b, p_dict_i, p_dict_s, p_dict_l, p_dict_t, p_dict_d, Bool.true_or, Bool.or_true, Bool.false_or, Bool.or_false, Bool.true_and, Bool.and_true, Bool.false_and, Bool.and_false, Bool.not_true, Bool.not_false, o_len_l, o_len_t, o_abs, o_max, o_min, o_int, o_intb, o_tup_l, o_tup_t, o_list_l, o_list_t, o_all, o_any, o_divmod, o_max1, o_min1, o_sum1, o_str, o_strs, o_add, o_add_l, o_add_t, o_sub, o_mul, o_mul_l, o_mul_t, o_div, o_mod, o_pow, o_lt, o_le, o_gt, o_ge, o_eq, o_ne, o_nes, o_eqs, o_eqb, o_tn, o_tb, o_ti, o_tl, o_tt, o_ixl, o_ixt, o_sll, o_slt, if_true, if_false, decide_true, decide_false, retOf, Option.map_some, Bool.false_eq_true, Ex.P, truP, l33]
    · simp only [List.map_cons, List.map_nil, List.length_cons, List.length_nil, List.replicate, List.cons_append, List.nil_append, List.getElem?_cons_zero, List.getElem?_cons_succ, List.set_cons_zero, List.set_cons_succ, Nat.reduceAdd, Nat.reduceSub, Nat.zero_add, denSs, denS, denE, denT, denTAnd, denTOr, denAnd, denOr, denEs, denO, denI, Res.bind, Res.bindN, rdd, rd, rds, dat, bol, mkL, dats, itsOf, setIx, isL, apIx, seqOf, setAll, bindT, bindTs, itsAll, p_int_n, p_int_b, p_int_i, p_int_s, p_int_l, p_int_t, p_int_d, p_bool_n, p_bool_b, p_bool_i, p_bool_s, p_bool_l, p_bool_t, p_bool_d, p_tuple_n, p_tuple_b, p_tuple_i, p_tuple_s, p_tuple_l, p_tuple_t, p_tuple_d, p_list_n, p_list_b, p_list_i, p_list_s, p_list_l, p_list_t, p_list_d, p_str_n, p_str_b, p_str_i, p_str_s, p_str_l, p_str_t, p_str_d, p_dict_n, p_dict_b, p_dict_i, p_dict_s, p_dict_l, p_dict_t, p_dict_d, Bool.true_or, Bool.or_true, Bool.false_or, Bool.or_false, Bool.true_and, Bool.and_true, Bool.false_and, Bool.and_false, Bool.not_true, Bool.not_false, o_len_l, o_len_t, o_abs, o_max, o_min, o_int, o_intb, o_tup_l, o_tup_t, o_list_l, o_list_t, o_all, o_any, o_divmod, o_max1, o_min1, o_sum1, o_str, o_strs, o_add, o_add_l, o_add_t, o_sub, o_mul, o_mul_l, o_mul_t, o_div, o_mod, o_pow, o_lt, o_le, o_gt, o_ge, o_eq, o_ne, o_nes, o_eqs, o_eqb, o_tn, o_tb, o_ti, o_tl, o_tt, o_ixl, o_ixt, o_sll, o_slt, if_true, if_false, decide_true, decide_false, retOf, Option.map_some, Bool.false_eq_true, Ex.P, a3_0, a3_1, a3_2, ia, ib, sz_le, Nat.reduceLeDiff]
/-! ### _law_turned -/
def ordP (ord : List Nat) : List PyData := ord.map fun (k : Nat) => PyData.int (k : Int)
theorem atI_ord {ord : List Nat} {k : Nat} (h : k < ord.length) : L2.atI (ordP ord) (k : Int) = some (.int ((ord.getD k 0 : Nat) : Int)) := by
  unfold ordP
  rw [atI_ok (by simpa using h), List.getElem_map, List.getD_eq_getElem?_getD, List.getElem?_eq_getElem h]
  rfl
theorem r_turned (n : Nat) (ord : List Nat) : ∀ (e : Ex) (d : Nat) (m : Mem), LD m → e.dep ≤ d → e.Ok ord.length → callN T (n + d + 1) 23 [.d e.P, .d (.list (ordP ord))] m = .ok (.d (e.turn fun k => ord.getD k 0).P) m
  | .num i, d, m, hm, hd, ho => by
    refine call_data (f := f23) hm rfl rfl rfl ?_
    generalize callN T (n + d) = call
    generalize ordP ord = O at *
    suffices h : denSs call f23.body [some (.d (Ex.num i).P), some (.d (.list O))] m = .ok (.ret (.d (Ex.num i).P), [some (.d (Ex.num i).P), some (.d (.list O))]) m from congrArg retOf h
    refine seq_step (iff_n (m1 := m) ?_) (seq_step (iff_n (m1 := m) ?_) (ret_step ?_))
    · simp only [List.map_cons, List.map_nil, List.length_cons, List.length_nil, List.replicate, List.cons_append, List.nil_append, List.getElem?_cons_zero, List.getElem?_cons_succ, List.set_cons_zero, List.set_cons_succ, Nat.reduceAdd, Nat.reduceSub, Nat.zero_add, denSs, denS, denE, denT, denTAnd, denTOr, denAnd, denOr, denEs, denO, denI, Res.bind, Res.bindN, rdd, rd, rds, dat, bol, mkL, dats, itsOf, setIx, isL, apIx, seqOf, setAll, bindT, bindTs, itsAll, p_int_n, p_int_b, p_int_i, p_int_s, p_int_l, p_int_t, p_int_d, p_bool_n, p_bool_b, p_bool_i, p_bool_s, p_bool_l, p_bool_t, p_bool_d, p_tuple_n, p_tuple_b, p_tuple_i, p_tuple_s, p_tuple_l, p_tuple_t, p_tuple_d, p_list_n, p_list_b, p_list_i, p_list_s, p_list_l, p_list_t, p_list_d, p_str_n, p_str_b, p_str_i, p_str_s, p_str_l, p_str_t, p_str_d, p_dict_n, p_dict_b, p_dict_i, p_dict_s, p_dict_l, p_dict_t, p_dict_d, Bool.true_or, Bool.or_true, Bool.false_or, Bool.or_false, Bool.true_and, Bool.and_true, Bool.false_and, Bool.and_false, Bool.not_true, Bool.not_false, o_len_l, o_len_t, o_abs, o_max, o_min, o_int, o_intb, o_tup_l, o_tup_t, o_list_l, o_list_t, o_all, o_any, o_divmod, o_max1, o_min1, o_sum1, o_str, o_strs, o_add, o_add_l, o_add_t, o_sub, o_mul, o_mul_l, o_mul_t, o_div, o_mod, o_pow, o_lt, o_le, o_gt, o_ge, o_eq, o_ne, o_nes, o_eqs, o_eqb, o_tn, o_tb, o_ti, o_tl, o_tt, o_ixl, o_ixt, o_sll, o_slt, if_true, if_false, decide_true, decide_false, retOf, Option.map_some, Bool.false_eq_true, Ex.P, truP]
    · simp only [List.map_cons, List.map_nil, List.length_cons, List.length_nil, List.replicate, List.cons_append, List.nil_append, List.getElem?_cons_zero, List.getElem?_cons_succ, List.set_cons_zero, List.set_cons_succ, Nat.reduceAdd, Nat.reduceSub, Nat.zero_add, denSs, denS, denE, denT, denTAnd, denTOr, denAnd, denOr, denEs, denO, denI, Res.bind, Res.bindN, rdd, rd, rds, dat, bol, mkL, dats, itsOf, setIx, isL, apIx, seqOf, setAll, bindT, bindTs, itsAll, p_int_n, p_int_b, p_int_i, p_int_s, p_int_l, p_int_t, p_int_d, p_bool_n, p_bool_b, p_bool_i, p_bool_s, p_bool_l, p_bool_t, p_bool_d, p_tuple_n, p_tuple_b, p_tuple_i, p_tuple_s, p_tuple_l, p_tuple_t, p_tuple_d, p_list_n, p_list_b, p_list_i, p_list_s, p_list_l, p_list_t, p_list_d, p_str_n, p_str_b, p_str_i, p_str_s, p_str_l, p_str_t, p_str_d, p_dict_n, p_dict_b, p_dict_i, p_dict_s, p_dict_l, p_dict_t, p_dict_d, Bool.true_or, Bool.or_true, Bool.false_or, Bool.or_false, Bool.true_and, Bool.and_true, Bool.false_and, Bool.and_false, Bool.not_true, Bool.not_false, o_len_l, o_len_t, o_abs, o_max, o_min, o_int, o_intb, o_tup_l, o_tup_t, o_list_l, o_list_t, o_all, o_any, o_divmod, o_max1, o_min1, o_sum1, o_str, o_strs, o_add, o_add_l, o_add_t, o_sub, o_mul, o_mul_l, o_mul_t, o_div, o_mod, o_pow, o_lt, o_le, o_gt, o_ge, o_eq, o_ne, o_nes, o_eqs, o_eqb, o_tn, o_tb, o_ti, o_tl, o_tt, o_ixl, o_ixt, o_sll, o_slt, if_true, if_false, decide_true, decide_false, retOf, Option.map_some, Bool.false_eq_true, Ex.P, truP]
    · simp only [List.map_cons, List.map_nil, List.length_cons, List.length_nil, List.replicate, List.cons_append, List.nil_append, List.getElem?_cons_zero, List.getElem?_cons_succ, List.set_cons_zero, List.set_cons_succ, Nat.reduceAdd, Nat.reduceSub, Nat.zero_add, denSs, denS, denE, denT, denTAnd, denTOr, denAnd, denOr, denEs, denO, denI, Res.bind, Res.bindN, rdd, rd, rds, dat, bol, mkL, dats, itsOf, setIx, isL, apIx, seqOf, setAll, bindT, bindTs, itsAll]
  | .at_ k, d, m, hm, hd, ho => by
    have ha := atI_ord (ord := ord) (k := k) ho
    refine call_data (f := f23) hm rfl rfl rfl ?_
    generalize callN T (n + d) = call
    generalize ordP ord = O at *
    suffices h : denSs call f23.body [some (.d (Ex.at_ k).P), some (.d (.list O))] m = .ok (.ret (.d (Ex.at_ (ord.getD k 0)).P), [some (.d (Ex.at_ k).P), some (.d (.list O))]) m from congrArg retOf h
    refine seq_ret (iff_t (m1 := m) ?_ (ret_step ?_))
    · simp only [List.map_cons, List.map_nil, List.length_cons, List.length_nil, List.replicate, List.cons_append, List.nil_append, List.getElem?_cons_zero, List.getElem?_cons_succ, List.set_cons_zero, List.set_cons_succ, Nat.reduceAdd, Nat.reduceSub, Nat.zero_add, denSs, denS, denE, denT, denTAnd, denTOr, denAnd, denOr, denEs, denO, denI, Res.bind, Res.bindN, rdd, rd, rds, dat, bol, mkL, dats, itsOf, setIx, isL, apIx, seqOf, setAll, bindT, bindTs, itsAll, p_int_n, p_int_b, p_int_i, p_int_s, p_int_l, p_int_t, p_int_d, p_bool_n, p_bool_b, p_bool_i, p_bool_s, p_bool_l, p_bool_t, p_bool_d, p_tuple_n, p_tuple_b, p_tuple_i, p_tuple_s, p_tuple_l, p_tuple_t, p_tuple_d, p_list_n, p_list_b, p_list_i, p_list_s, p_list_l, p_list_t, p_list_d, p_str_n, p_str_b, p_str_i, p_str_s, p_str_l, p_str_t, p_str_d, p_dict_n, p_dict_b, p_dict_i, p_dict_s, p_dict_l, p_dict_t, p_dict_d, Bool.true_or, Bool.or_true, Bool.false_or, Bool.or_false, Bool.true_and, Bool.and_true, Bool.false_and, Bool.and_false, Bool.not_true, Bool.not_false, o_len_l, o_len_t, o_abs, o_max, o_min, o_int, o_intb, o_tup_l, o_tup_t, o_list_l, o_list_t, o_all, o_any, o_divmod, o_max1, o_min1, o_sum1, o_str, o_strs, o_add, o_add_l, o_add_t, o_sub, o_mul, o_mul_l, o_mul_t, o_div, o_mod, o_pow, o_lt, o_le, o_gt, o_ge, o_eq, o_ne, o_nes, o_eqs, o_eqb, o_tn, o_tb, o_ti, o_tl, o_tt, o_ixl, o_ixt, o_sll, o_slt, if_true, if_false, decide_true, decide_false, retOf, Option.map_some, Bool.false_eq_true, Ex.P, a3_0, at_at, truP]
    · simp only [List.map_cons, List.map_nil, List.length_cons, List.length_nil, List.replicate, List.cons_append, List.nil_append, List.getElem?_cons_zero, List.getElem?_cons_succ, List.set_cons_zero, List.set_cons_succ, Nat.reduceAdd, Nat.reduceSub, Nat.zero_add, denSs, denS, denE, denT, denTAnd, denTOr, denAnd, denOr, denEs, denO, denI, Res.bind, Res.bindN, rdd, rd, rds, dat, bol, mkL, dats, itsOf, setIx, isL, apIx, seqOf, setAll, bindT, bindTs, itsAll, p_int_n, p_int_b, p_int_i, p_int_s, p_int_l, p_int_t, p_int_d, p_bool_n, p_bool_b, p_bool_i, p_bool_s, p_bool_l, p_bool_t, p_bool_d, p_tuple_n, p_tuple_b, p_tuple_i, p_tuple_s, p_tuple_l, p_tuple_t, p_tuple_d, p_list_n, p_list_b, p_list_i, p_list_s, p_list_l, p_list_t, p_list_d, p_str_n, p_str_b, p_str_i, p_str_s, p_str_l, p_str_t, p_str_d, p_dict_n, p_dict_b, p_dict_i, p_dict_s, p_dict_l, p_dict_t, p_dict_d, Bool.true_or, Bool.or_true, Bool.false_or, Bool.or_false, Bool.true_and, Bool.and_true, Bool.false_and, Bool.and_false, Bool.not_true, Bool.not_false, o_len_l, o_len_t, o_abs, o_max, o_min, o_int, o_intb, o_tup_l, o_tup_t, o_list_l, o_list_t, o_all, o_any, o_divmod, o_max1, o_min1, o_sum1, o_str, o_strs, o_add, o_add_l, o_add_t, o_sub, o_mul, o_mul_l, o_mul_t, o_div, o_mod, o_pow, o_lt, o_le, o_gt, o_ge, o_eq, o_ne, o_nes, o_eqs, o_eqb, o_tn, o_tb, o_ti, o_tl, o_tt, o_ixl, o_ixt, o_sll, o_slt, if_true, if_false, decide_true, decide_false, retOf, Option.map_some, Bool.false_eq_true, Ex.P, a3_1, ha, sz_le, Nat.reduceLeDiff]
  | .was, d, m, hm, hd, ho => by
    refine call_data (f := f23) hm rfl rfl rfl ?_
    generalize callN T (n + d) = call
    generalize ordP ord = O at *
    suffices h : denSs call f23.body [some (.d Ex.was.P), some (.d (.list O))] m = .ok (.ret (.d Ex.was.P), [some (.d Ex.was.P), some (.d (.list O))]) m from congrArg retOf h
    refine seq_step (iff_n (m1 := m) ?_) (seq_step (iff_n (m1 := m) ?_) (ret_step ?_))
    · simp only [List.map_cons, List.map_nil, List.length_cons, List.length_nil, List.replicate, List.cons_append, List.nil_append, List.getElem?_cons_zero, List.getElem?_cons_succ, List.set_cons_zero, List.set_cons_succ, Nat.reduceAdd, Nat.reduceSub, Nat.zero_add, denSs, denS, denE, denT, denTAnd, denTOr, denAnd, denOr, denEs, denO, denI, Res.bind, Res.bindN, rdd, rd, rds, dat, bol, mkL, dats, itsOf, setIx, isL, apIx, seqOf, setAll, bindT, bindTs, itsAll, p_int_n, p_int_b, p_int_i, p_int_s, p_int_l, p_int_t, p_int_d, p_bool_n, p_bool_b, p_bool_i, p_bool_s, p_bool_l, p_bool_t, p_bool_d, p_tuple_n, p_tuple_b, p_tuple_i, p_tuple_s, p_tuple_l, p_tuple_t, p_tuple_d, p_list_n, p_list_b, p_list_i, p_list_s, p_list_l, p_list_t, p_list_d, p_str_n, p_str_b, p_str_i, p_str_s, p_str_l, p_str_t, p_str_d, p_dict_n, p_dict_b, p_dict_i, p_dict_s, p_dict_l, p_dict_t, p_dict_d, Bool.true_or, Bool.or_true, Bool.false_or, Bool.or_false, Bool.true_and, Bool.and_true, Bool.false_and, Bool.and_false, Bool.not_true, Bool.not_false, o_len_l, o_len_t, o_abs, o_max, o_min, o_int, o_intb, o_tup_l, o_tup_t, o_list_l, o_list_t, o_all, o_any, o_divmod, o_max1, o_min1, o_sum1, o_str, o_strs, o_add, o_add_l, o_add_t, o_sub, o_mul, o_mul_l, o_mul_t, o_div, o_mod, o_pow, o_lt, o_le, o_gt, o_ge, o_eq, o_ne, o_nes, o_eqs, o_eqb, o_tn, o_tb, o_ti, o_tl, o_tt, o_ixl, o_ixt, o_sll, o_slt, if_true, if_false, decide_true, decide_false, retOf, Option.map_some, Bool.false_eq_true, Ex.P, a3_0, was_at, truP]
    · simp only [List.map_cons, List.map_nil, List.length_cons, List.length_nil, List.replicate, List.cons_append, List.nil_append, List.getElem?_cons_zero, List.getElem?_cons_succ, List.set_cons_zero, List.set_cons_succ, Nat.reduceAdd, Nat.reduceSub, Nat.zero_add, denSs, denS, denE, denT, denTAnd, denTOr, denAnd, denOr, denEs, denO, denI, Res.bind, Res.bindN, rdd, rd, rds, dat, bol, mkL, dats, itsOf, setIx, isL, apIx, seqOf, setAll, bindT, bindTs, itsAll, p_int_n, p_int_b, p_int_i, p_int_s, p_int_l, p_int_t, p_int_d, p_bool_n, p_bool_b, p_bool_i, p_bool_s, p_bool_l, p_bool_t, p_bool_d, p_tuple_n, p_tuple_b, p_tuple_i, p_tuple_s, p_tuple_l, p_tuple_t, p_tuple_d, p_list_n, p_list_b, p_list_i, p_list_s, p_list_l, p_list_t, p_list_d, p_str_n, p_str_b, p_str_i, p_str_s, p_str_l, p_str_t, p_str_d, p_dict_n, p_dict_b, p_dict_i, p_dict_s, p_dict_l, p_dict_t, p_dict_d, Bool.true_or, Bool.or_true, Bool.false_or, Bool.or_false, Bool.true_and, Bool.and_true, Bool.false_and, Bool.and_false, Bool.not_true, Bool.not_false, o_len_l, o_len_t, o_abs, o_max, o_min, o_int, o_intb, o_tup_l, o_tup_t, o_list_l, o_list_t, o_all, o_any, o_divmod, o_max1, o_min1, o_sum1, o_str, o_strs, o_add, o_add_l, o_add_t, o_sub, o_mul, o_mul_l, o_mul_t, o_div, o_mod, o_pow, o_lt, o_le, o_gt, o_ge, o_eq, o_ne, o_nes, o_eqs, o_eqb, o_tn, o_tb, o_ti, o_tl, o_tt, o_ixl, o_ixt, o_sll, o_slt, if_true, if_false, decide_true, decide_false, retOf, Option.map_some, Bool.false_eq_true, Ex.P, truP, l13]
    · simp only [List.map_cons, List.map_nil, List.length_cons, List.length_nil, List.replicate, List.cons_append, List.nil_append, List.getElem?_cons_zero, List.getElem?_cons_succ, List.set_cons_zero, List.set_cons_succ, Nat.reduceAdd, Nat.reduceSub, Nat.zero_add, denSs, denS, denE, denT, denTAnd, denTOr, denAnd, denOr, denEs, denO, denI, Res.bind, Res.bindN, rdd, rd, rds, dat, bol, mkL, dats, itsOf, setIx, isL, apIx, seqOf, setAll, bindT, bindTs, itsAll]
  | .op p a b, d, m, hm, hd, ho => by
    obtain ⟨d, rfl⟩ : ∃ d', d = d' + 1 := ⟨d - 1, by simp only [Ex.dep] at hd; omega⟩
    have da : a.dep ≤ d := by simp only [Ex.dep] at hd; omega
    have db : b.dep ≤ d := by simp only [Ex.dep] at hd; omega
    have ia := r_turned n ord a d m hm da ho.1
    have ib := r_turned n ord b d m hm db ho.2
    refine call_data (f := f23) hm rfl rfl rfl ?_
    rw [show n + (d + 1) = n + d + 1 from rfl]
    generalize callN T (n + d + 1) = call at *
    generalize ordP ord = O at *
    suffices h : denSs call f23.body [some (.d (Ex.op p a b).P), some (.d (.list O))] m = .ok (.ret (.d (Ex.op p (a.turn fun k => ord.getD k 0) (b.turn fun k => ord.getD k 0)).P), [some (.d (Ex.op p a b).P), some (.d (.list O))]) m from congrArg retOf h
    refine seq_step (iff_n (m1 := m) ?_) (seq_ret (iff_t (m1 := m) ?_ (ret_step ?_)))
    · simp only [List.map_cons, List.map_nil, List.length_cons, List.length_nil, List.replicate, List.cons_append, List.nil_append, List.getElem?_cons_zero, List.getElem?_cons_succ, List.set_cons_zero, List.set_cons_succ, Nat.reduceAdd, Nat.reduceSub, Nat.zero_add, denSs, denS, denE, denT, denTAnd, denTOr, denAnd, denOr, denEs, denO, denI, Res.bind, Res.bindN, rdd, rd, rds, dat, bol, mkL, dats, itsOf, setIx, isL, apIx, seqOf, setAll, bindT, bindTs, itsAll, p_int_n, p_int_b, p_int_i, p_int_s, p_int_l, p_int_t, p_int_d, p_bool_n, p_bool_b, p_bool_i, p_bool_s, p_bool_l, p_bool_t, p_bool_d, p_tuple_n, p_tuple_b, p_tuple_i, p_tuple_s, p_tuple_l, p_tuple_t, p_tuple_d, p_list_n, p_list_b, p_list_i, p_list_s, p_list_l, p_list_t, p_list_d, p_str_n, p_str_b, p_str_i, p_str_s, p_str_l, p_str_t, p_str_d, p_dict_n, p_dict_b, p_dict_i, p_dict_s, p_dict_l, p_dict_t, p_dict_d, Bool.true_or, Bool.or_true, Bool.false_or, Bool.or_false, Bool.true_and, Bool.and_true, Bool.false_and, Bool.and_false, Bool.not_true, Bool.not_false, o_len_l, o_len_t, o_abs, o_max, o_min, o_int, o_intb, o_tup_l, o_tup_t, o_list_l, o_list_t, o_all, o_any, o_divmod, o_max1, o_min1, o_sum1, o_str, o_strs, o_add, o_add_l, o_add_t, o_sub, o_mul, o_mul_l, o_mul_t, o_div, o_mod, o_pow, o_lt, o_le, o_gt, o_ge, o_eq, o_ne, o_nes, o_eqs, o_eqb, o_tn, o_tb, o_ti, o_tl, o_tt, o_ixl, o_ixt, o_sll, o_slt, if_true, if_false, decide_true, decide_false, retOf, Option.map_some, Bool.false_eq_true, Ex.P, a3_0, nm_at, truP]
    · simp only [List.map_cons, List.map_nil, List.length_cons, List.length_nil, List.replicate, List.cons_append, List.nil_append, List.getElem?_cons_zero, List.getElem?_cons_succ, List.set_cons_zero, List.set_cons_succ, Nat.reduceAdd, Nat.reduceSub, Nat.zero_add, denSs, denS, denE, denT, denTAnd, denTOr, denAnd, denOr, denEs, denO, denI, Res.bind, Res.bindN, rdd, rd, rds, dat, bol, mkL, dats, itsOf, setIx, isL, apIx, seqOf, setAll, bindT, bindTs, itsAll, p_int_n, p_int_b, p_int_i, p_int_s, p_int_l, p_int_t, p_int_d, p_bool_n, p_bool_b, p_bool_i, p_bool_s, p_bool_l, p_bool_t, p_bool_d, p_tuple_n, p_tuple_b, p_tuple_i, p_tuple_s, p_tuple_l, p_tuple_t, p_tuple_d, p_list_n, p_list_b, p_list_i, p_list_s, p_list_l, p_list_t, p_list_d, p_str_n, p_str_b, p_str_i, p_str_s, p_str_l, p_str_t, p_str_d, p_dict_n, p_dict_b, p_dict_i, p_dict_s, p_dict_l, p_dict_t, p_dict_d, Bool.true_or, Bool.or_true, Bool.false_or, Bool.or_false, Bool.true_and, Bool.and_true, Bool.false_and, Bool.and_false, Bool.not_true, Bool.not_false, o_len_l, o_len_t, o_abs, o_max, o_min, o_int, o_intb, o_tup_l, o_tup_t, o_list_l, o_list_t, o_all, o_any, o_divmod, o_max1, o_min1, o_sum1, o_str, o_strs, o_add, o_add_l, o_add_t, o_sub, o_mul, o_mul_l, o_mul_t, o_div, o_mod, o_pow, o_lt, o_le, o_gt, o_ge, o_eq, o_ne, o_nes, o_eqs, o_eqb, o_tn, o_tb, o_ti, o_tl, o_tt, o_ixl, o_ixt, o_sll, o_slt, if_true, if_false, decide_true, decide_false, retOf, Option.map_some, Bool.false_eq_true, Ex.P, truP, l33]
    · simp only [List.map_cons, List.map_nil, List.length_cons, List.length_nil, List.replicate, List.cons_append, List.nil_append, List.getElem?_cons_zero, List.getElem?_cons_succ, List.set_cons_zero, List.set_cons_succ, Nat.reduceAdd, Nat.reduceSub, Nat.zero_add, denSs, denS, denE, denT, denTAnd, denTOr, denAnd, denOr, denEs, denO, denI, Res.bind, Res.bindN, rdd, rd, rds, dat, bol, mkL, dats, itsOf, setIx, isL, apIx, seqOf, setAll, bindT, bindTs, itsAll, p_int_n, p_int_b, p_int_i, p_int_s, p_int_l, p_int_t, p_int_d, p_bool_n, p_bool_b, p_bool_i, p_bool_s, p_bool_l, p_bool_t, p_bool_d, p_tuple_n, p_tuple_b, p_tuple_i, p_tuple_s, p_tuple_l, p_tuple_t, p_tuple_d, p_list_n, p_list_b, p_list_i, p_list_s, p_list_l, p_list_t, p_list_d, p_str_n, p_str_b, p_str_i, p_str_s, p_str_l, p_str_t, p_str_d, p_dict_n, p_dict_b, p_dict_i, p_dict_s, p_dict_l, p_dict_t, p_dict_d, Bool.true_or, Bool.or_true, Bool.false_or, Bool.or_false, Bool.true_and, Bool.and_true, Bool.false_and, Bool.and_false, Bool.not_true, Bool.not_false, o_len_l, o_len_t, o_abs, o_max, o_min, o_int, o_intb, o_tup_l, o_tup_t, o_list_l, o_list_t, o_all, o_any, o_divmod, o_max1, o_min1, o_sum1, o_str, o_strs, o_add, o_add_l, o_add_t, o_sub, o_mul, o_mul_l, o_mul_t, o_div, o_mod, o_pow, o_lt, o_le, o_gt, o_ge, o_eq, o_ne, o_nes, o_eqs, o_eqb, o_tn, o_tb, o_ti, o_tl, o_tt, o_ixl, o_ixt, o_sll, o_slt, if_true, if_false, decide_true, decide_false, retOf, Option.map_some, Bool.false_eq_true, Ex.P, a3_0, a3_1, a3_2, ia, ib, sz_le, Nat.reduceLeDiff]
/-! ### is_expr -/
theorem ops_in (o : Op) : (["plus", "minus", "times", "over", "rest", "less", "same"] : List Str).contains o.nm = true := by cases o <;> decide +kernel
theorem cut3 (a b c : PyData) : cutL [a, b, c] (some 1) none = [b, c] := rfl
theorem r_exby (n w : Nat) : ∀ (e : Ex) (l : Nat) (m : Mem), LD m → e.dep ≤ l → l ≤ 40 → e.Ok w → callN T (n + l + 4) 11 [.d e.P, .d (.int w), .d (.bool true), .d (.int l)] m = .ok (.d (.bool true)) m
  | .num i, l, m, hm, hd, hl, ho => by
    have hw := word_run h0 h1 h3 (n + l) i m hm
    rw [decide_eq_true (show Wd i from ho)] at hw
    refine call_data (f := f11) hm rfl rfl rfl ?_
    generalize callN T (n + l + 3) = call at *
    suffices h : denSs call f11.body [some (.d (Ex.num i).P), some (.d (.int w)), some (.d (.bool true)), some (.d (.int l)), none] m = .ok (.ret (.d (.bool true)), [some (.d (Ex.num i).P), some (.d (.int w)), some (.d (.bool true)), some (.d (.int l)), none]) m from congrArg retOf h
    refine seq_ret (iff_t (m1 := m) ?_ (ret_step ?_))
    · simp only [List.map_cons, List.map_nil, List.length_cons, List.length_nil, List.replicate, List.cons_append, List.nil_append, List.getElem?_cons_zero, List.getElem?_cons_succ, List.set_cons_zero, List.set_cons_succ, Nat.reduceAdd, Nat.reduceSub, Nat.zero_add, denSs, denS, denE, denT, denTAnd, denTOr, denAnd, denOr, denEs, denO, denI, Res.bind, Res.bindN, rdd, rd, rds, dat, bol, mkL, dats, itsOf, setIx, isL, apIx, seqOf, setAll, bindT, bindTs, itsAll, p_int_n, p_int_b, p_int_i, p_int_s, p_int_l, p_int_t, p_int_d, p_bool_n, p_bool_b, p_bool_i, p_bool_s, p_bool_l, p_bool_t, p_bool_d, p_tuple_n, p_tuple_b, p_tuple_i, p_tuple_s, p_tuple_l, p_tuple_t, p_tuple_d, p_list_n, p_list_b, p_list_i, p_list_s, p_list_l, p_list_t, p_list_d, p_str_n, p_str_b, p_str_i, p_str_s, p_str_l, p_str_t, p_str_d, p_dict_n, p_dict_b, p_dict_i, p_dict_s, p_dict_l, p_dict_t, p_dict_d, Bool.true_or, Bool.or_true, Bool.false_or, Bool.or_false, Bool.true_and, Bool.and_true, Bool.false_and, Bool.and_false, Bool.not_true, Bool.not_false, o_len_l, o_len_t, o_abs, o_max, o_min, o_int, o_intb, o_tup_l, o_tup_t, o_list_l, o_list_t, o_all, o_any, o_divmod, o_max1, o_min1, o_sum1, o_str, o_strs, o_add, o_add_l, o_add_t, o_sub, o_mul, o_mul_l, o_mul_t, o_div, o_mod, o_pow, o_lt, o_le, o_gt, o_ge, o_eq, o_ne, o_nes, o_eqs, o_eqb, o_tn, o_tb, o_ti, o_tl, o_tt, o_ixl, o_ixt, o_sll, o_slt, if_true, if_false, decide_true, decide_false, retOf, Option.map_some, Bool.false_eq_true, Ex.P, truP]
    · simp only [List.map_cons, List.map_nil, List.length_cons, List.length_nil, List.replicate, List.cons_append, List.nil_append, List.getElem?_cons_zero, List.getElem?_cons_succ, List.set_cons_zero, List.set_cons_succ, Nat.reduceAdd, Nat.reduceSub, Nat.zero_add, denSs, denS, denE, denT, denTAnd, denTOr, denAnd, denOr, denEs, denO, denI, Res.bind, Res.bindN, rdd, rd, rds, dat, bol, mkL, dats, itsOf, setIx, isL, apIx, seqOf, setAll, bindT, bindTs, itsAll, Ex.P, hw]
  | .was, l, m, hm, hd, hl, ho => by
    have q := eq_leaf .was .was (by simp [Ex.dep])
    have q : cmpP .Eq (.tuple [.str "was"]) (.tuple [.str "was"]) = some true := q
    refine call_data (f := f11) hm rfl rfl rfl ?_
    generalize callN T (n + l + 3) = call at *
    suffices h : denSs call f11.body [some (.d Ex.was.P), some (.d (.int w)), some (.d (.bool true)), some (.d (.int l)), none] m = .ok (.ret (.d (.bool true)), [some (.d Ex.was.P), some (.d (.int w)), some (.d (.bool true)), some (.d (.int l)), none]) m from congrArg retOf h
    refine seq_step (iff_n (m1 := m) ?_) (seq_ret (iff_t (m1 := m) ?_ (ret_step ?_)))
    · simp only [List.map_cons, List.map_nil, List.length_cons, List.length_nil, List.replicate, List.cons_append, List.nil_append, List.getElem?_cons_zero, List.getElem?_cons_succ, List.set_cons_zero, List.set_cons_succ, Nat.reduceAdd, Nat.reduceSub, Nat.zero_add, denSs, denS, denE, denT, denTAnd, denTOr, denAnd, denOr, denEs, denO, denI, Res.bind, Res.bindN, rdd, rd, rds, dat, bol, mkL, dats, itsOf, setIx, isL, apIx, seqOf, setAll, bindT, bindTs, itsAll, p_int_n, p_int_b, p_int_i, p_int_s, p_int_l, p_int_t, p_int_d, p_bool_n, p_bool_b, p_bool_i, p_bool_s, p_bool_l, p_bool_t, p_bool_d, p_tuple_n, p_tuple_b, p_tuple_i, p_tuple_s, p_tuple_l, p_tuple_t, p_tuple_d, p_list_n, p_list_b, p_list_i, p_list_s, p_list_l, p_list_t, p_list_d, p_str_n, p_str_b, p_str_i, p_str_s, p_str_l, p_str_t, p_str_d, p_dict_n, p_dict_b, p_dict_i, p_dict_s, p_dict_l, p_dict_t, p_dict_d, Bool.true_or, Bool.or_true, Bool.false_or, Bool.or_false, Bool.true_and, Bool.and_true, Bool.false_and, Bool.and_false, Bool.not_true, Bool.not_false, o_len_l, o_len_t, o_abs, o_max, o_min, o_int, o_intb, o_tup_l, o_tup_t, o_list_l, o_list_t, o_all, o_any, o_divmod, o_max1, o_min1, o_sum1, o_str, o_strs, o_add, o_add_l, o_add_t, o_sub, o_mul, o_mul_l, o_mul_t, o_div, o_mod, o_pow, o_lt, o_le, o_gt, o_ge, o_eq, o_ne, o_nes, o_eqs, o_eqb, o_tn, o_tb, o_ti, o_tl, o_tt, o_ixl, o_ixt, o_sll, o_slt, if_true, if_false, decide_true, decide_false, retOf, Option.map_some, Bool.false_eq_true, Ex.P, truP]
    · simp only [List.map_cons, List.map_nil, List.length_cons, List.length_nil, List.replicate, List.cons_append, List.nil_append, List.getElem?_cons_zero, List.getElem?_cons_succ, List.set_cons_zero, List.set_cons_succ, Nat.reduceAdd, Nat.reduceSub, Nat.zero_add, denSs, denS, denE, denT, denTAnd, denTOr, denAnd, denOr, denEs, denO, denI, Res.bind, Res.bindN, rdd, rd, rds, dat, bol, mkL, dats, itsOf, setIx, isL, apIx, seqOf, setAll, bindT, bindTs, itsAll, p_int_n, p_int_b, p_int_i, p_int_s, p_int_l, p_int_t, p_int_d, p_bool_n, p_bool_b, p_bool_i, p_bool_s, p_bool_l, p_bool_t, p_bool_d, p_tuple_n, p_tuple_b, p_tuple_i, p_tuple_s, p_tuple_l, p_tuple_t, p_tuple_d, p_list_n, p_list_b, p_list_i, p_list_s, p_list_l, p_list_t, p_list_d, p_str_n, p_str_b, p_str_i, p_str_s, p_str_l, p_str_t, p_str_d, p_dict_n, p_dict_b, p_dict_i, p_dict_s, p_dict_l, p_dict_t, p_dict_d, Bool.true_or, Bool.or_true, Bool.false_or, Bool.or_false, Bool.true_and, Bool.and_true, Bool.false_and, Bool.and_false, Bool.not_true, Bool.not_false, o_len_l, o_len_t, o_abs, o_max, o_min, o_int, o_intb, o_tup_l, o_tup_t, o_list_l, o_list_t, o_all, o_any, o_divmod, o_max1, o_min1, o_sum1, o_str, o_strs, o_add, o_add_l, o_add_t, o_sub, o_mul, o_mul_l, o_mul_t, o_div, o_mod, o_pow, o_lt, o_le, o_gt, o_ge, o_eq, o_ne, o_nes, o_eqs, o_eqb, o_tn, o_tb, o_ti, o_tl, o_tt, o_ixl, o_ixt, o_sll, o_slt, if_true, if_false, decide_true, decide_false, retOf, Option.map_some, Bool.false_eq_true, Ex.P, sz_le, Nat.reduceLeDiff, q, truP]
    · simp only [List.map_cons, List.map_nil, List.length_cons, List.length_nil, List.replicate, List.cons_append, List.nil_append, List.getElem?_cons_zero, List.getElem?_cons_succ, List.set_cons_zero, List.set_cons_succ, Nat.reduceAdd, Nat.reduceSub, Nat.zero_add, denSs, denS, denE, denT, denTAnd, denTOr, denAnd, denOr, denEs, denO, denI, Res.bind, Res.bindN, rdd, rd, rds, dat, bol, mkL, dats, itsOf, setIx, isL, apIx, seqOf, setAll, bindT, bindTs, itsAll]
  | .at_ k, l, m, hm, hd, hl, ho => by
    have ho : k < w := ho
    have q := eq_leaf (.at_ k) .was (by simp [Ex.dep])
    have q : cmpP .Eq (.tuple [.str "at", .int k]) (.tuple [.str "was"]) = some false := q
    have hb := between_run h0 h1 (n + l + 1) (.int k) 0 ((w : Int) - 1) m hm
    rw [show isBetween (.int (k : Int)) 0 ((w : Int) - 1) = true by simp only [isBetween, Bool.and_eq_true, decide_eq_true_eq]; omega] at hb
    refine call_data (f := f11) hm rfl rfl rfl ?_
    rw [show n + l + 1 + 2 = n + l + 3 from rfl] at hb
    generalize callN T (n + l + 3) = call at *
    suffices h : denSs call f11.body [some (.d (Ex.at_ k).P), some (.d (.int w)), some (.d (.bool true)), some (.d (.int l)), none] m = .ok (.ret (.d (.bool true)), [some (.d (Ex.at_ k).P), some (.d (.int w)), some (.d (.bool true)), some (.d (.int l)), none]) m from congrArg retOf h
    refine seq_step (iff_n (m1 := m) ?_) (seq_step (iff_n (m1 := m) ?_) (seq_ret (iff_t (m1 := m) ?_ (ret_step ?_))))
    · simp only [List.map_cons, List.map_nil, List.length_cons, List.length_nil, List.replicate, List.cons_append, List.nil_append, List.getElem?_cons_zero, List.getElem?_cons_succ, List.set_cons_zero, List.set_cons_succ, Nat.reduceAdd, Nat.reduceSub, Nat.zero_add, denSs, denS, denE, denT, denTAnd, denTOr, denAnd, denOr, denEs, denO, denI, Res.bind, Res.bindN, rdd, rd, rds, dat, bol, mkL, dats, itsOf, setIx, isL, apIx, seqOf, setAll, bindT, bindTs, itsAll, p_int_n, p_int_b, p_int_i, p_int_s, p_int_l, p_int_t, p_int_d, p_bool_n, p_bool_b, p_bool_i, p_bool_s, p_bool_l, p_bool_t, p_bool_d, p_tuple_n, p_tuple_b, p_tuple_i, p_tuple_s, p_tuple_l, p_tuple_t, p_tuple_d, p_list_n, p_list_b, p_list_i, p_list_s, p_list_l, p_list_t, p_list_d, p_str_n, p_str_b, p_str_i, p_str_s, p_str_l, p_str_t, p_str_d, p_dict_n, p_dict_b, p_dict_i, p_dict_s, p_dict_l, p_dict_t, p_dict_d, Bool.true_or, Bool.or_true, Bool.false_or, Bool.or_false, Bool.true_and, Bool.and_true, Bool.false_and, Bool.and_false, Bool.not_true, Bool.not_false, o_len_l, o_len_t, o_abs, o_max, o_min, o_int, o_intb, o_tup_l, o_tup_t, o_list_l, o_list_t, o_all, o_any, o_divmod, o_max1, o_min1, o_sum1, o_str, o_strs, o_add, o_add_l, o_add_t, o_sub, o_mul, o_mul_l, o_mul_t, o_div, o_mod, o_pow, o_lt, o_le, o_gt, o_ge, o_eq, o_ne, o_nes, o_eqs, o_eqb, o_tn, o_tb, o_ti, o_tl, o_tt, o_ixl, o_ixt, o_sll, o_slt, if_true, if_false, decide_true, decide_false, retOf, Option.map_some, Bool.false_eq_true, Ex.P, truP]
    · simp only [List.map_cons, List.map_nil, List.length_cons, List.length_nil, List.replicate, List.cons_append, List.nil_append, List.getElem?_cons_zero, List.getElem?_cons_succ, List.set_cons_zero, List.set_cons_succ, Nat.reduceAdd, Nat.reduceSub, Nat.zero_add, denSs, denS, denE, denT, denTAnd, denTOr, denAnd, denOr, denEs, denO, denI, Res.bind, Res.bindN, rdd, rd, rds, dat, bol, mkL, dats, itsOf, setIx, isL, apIx, seqOf, setAll, bindT, bindTs, itsAll, p_int_n, p_int_b, p_int_i, p_int_s, p_int_l, p_int_t, p_int_d, p_bool_n, p_bool_b, p_bool_i, p_bool_s, p_bool_l, p_bool_t, p_bool_d, p_tuple_n, p_tuple_b, p_tuple_i, p_tuple_s, p_tuple_l, p_tuple_t, p_tuple_d, p_list_n, p_list_b, p_list_i, p_list_s, p_list_l, p_list_t, p_list_d, p_str_n, p_str_b, p_str_i, p_str_s, p_str_l, p_str_t, p_str_d, p_dict_n, p_dict_b, p_dict_i, p_dict_s, p_dict_l, p_dict_t, p_dict_d, Bool.true_or, Bool.or_true, Bool.false_or, Bool.or_false, Bool.true_and, Bool.and_true, Bool.false_and, Bool.and_false, Bool.not_true, Bool.not_false, o_len_l, o_len_t, o_abs, o_max, o_min, o_int, o_intb, o_tup_l, o_tup_t, o_list_l, o_list_t, o_all, o_any, o_divmod, o_max1, o_min1, o_sum1, o_str, o_strs, o_add, o_add_l, o_add_t, o_sub, o_mul, o_mul_l, o_mul_t, o_div, o_mod, o_pow, o_lt, o_le, o_gt, o_ge, o_eq, o_ne, o_nes, o_eqs, o_eqb, o_tn, o_tb, o_ti, o_tl, o_tt, o_ixl, o_ixt, o_sll, o_slt, if_true, if_false, decide_true, decide_false, retOf, Option.map_some, Bool.false_eq_true, Ex.P, sz_le, Nat.reduceLeDiff, q, truP]
    · simp only [List.map_cons, List.map_nil, List.length_cons, List.length_nil, List.replicate, List.cons_append, List.nil_append, List.getElem?_cons_zero, List.getElem?_cons_succ, List.set_cons_zero, List.set_cons_succ, Nat.reduceAdd, Nat.reduceSub, Nat.zero_add, denSs, denS, denE, denT, denTAnd, denTOr, denAnd, denOr, denEs, denO, denI, Res.bind, Res.bindN, rdd, rd, rds, dat, bol, mkL, dats, itsOf, setIx, isL, apIx, seqOf, setAll, bindT, bindTs, itsAll, p_int_n, p_int_b, p_int_i, p_int_s, p_int_l, p_int_t, p_int_d, p_bool_n, p_bool_b, p_bool_i, p_bool_s, p_bool_l, p_bool_t, p_bool_d, p_tuple_n, p_tuple_b, p_tuple_i, p_tuple_s, p_tuple_l, p_tuple_t, p_tuple_d, p_list_n, p_list_b, p_list_i, p_list_s, p_list_l, p_list_t, p_list_d, p_str_n, p_str_b, p_str_i, p_str_s, p_str_l, p_str_t, p_str_d, p_dict_n, p_dict_b, p_dict_i, p_dict_s, p_dict_l, p_dict_t, p_dict_d, Bool.true_or, Bool.or_true, Bool.false_or, Bool.or_false, Bool.true_and, Bool.and_true, Bool.false_and, Bool.and_false, Bool.not_true, Bool.not_false, o_len_l, o_len_t, o_abs, o_max, o_min, o_int, o_intb, o_tup_l, o_tup_t, o_list_l, o_list_t, o_all, o_any, o_divmod, o_max1, o_min1, o_sum1, o_str, o_strs, o_add, o_add_l, o_add_t, o_sub, o_mul, o_mul_l, o_mul_t, o_div, o_mod, o_pow, o_lt, o_le, o_gt, o_ge, o_eq, o_ne, o_nes, o_eqs, o_eqb, o_tn, o_tb, o_ti, o_tl, o_tt, o_ixl, o_ixt, o_sll, o_slt, if_true, if_false, decide_true, decide_false, retOf, Option.map_some, Bool.false_eq_true, Ex.P, truP, show (((2 : Nat) : Int) == 2) = true from by decide]
    · simp only [List.map_cons, List.map_nil, List.length_cons, List.length_nil, List.replicate, List.cons_append, List.nil_append, List.getElem?_cons_zero, List.getElem?_cons_succ, List.set_cons_zero, List.set_cons_succ, Nat.reduceAdd, Nat.reduceSub, Nat.zero_add, denSs, denS, denE, denT, denTAnd, denTOr, denAnd, denOr, denEs, denO, denI, Res.bind, Res.bindN, rdd, rd, rds, dat, bol, mkL, dats, itsOf, setIx, isL, apIx, seqOf, setAll, bindT, bindTs, itsAll, p_int_n, p_int_b, p_int_i, p_int_s, p_int_l, p_int_t, p_int_d, p_bool_n, p_bool_b, p_bool_i, p_bool_s, p_bool_l, p_bool_t, p_bool_d, p_tuple_n, p_tuple_b, p_tuple_i, p_tuple_s, p_tuple_l, p_tuple_t, p_tuple_d, p_list_n, p_list_b, p_list_i, p_list_s, p_list_l, p_list_t, p_list_d, p_str_n, p_str_b, p_str_i, p_str_s, p_str_l, p_str_t, p_str_d, p_dict_n, p_dict_b, p_dict_i, p_dict_s, p_dict_l, p_dict_t, p_dict_d, Bool.true_or, Bool.or_true, Bool.false_or, Bool.or_false, Bool.true_and, Bool.and_true, Bool.false_and, Bool.and_false, Bool.not_true, Bool.not_false, o_len_l, o_len_t, o_abs, o_max, o_min, o_int, o_intb, o_tup_l, o_tup_t, o_list_l, o_list_t, o_all, o_any, o_divmod, o_max1, o_min1, o_sum1, o_str, o_strs, o_add, o_add_l, o_add_t, o_sub, o_mul, o_mul_l, o_mul_t, o_div, o_mod, o_pow, o_lt, o_le, o_gt, o_ge, o_eq, o_ne, o_nes, o_eqs, o_eqb, o_tn, o_tb, o_ti, o_tl, o_tt, o_ixl, o_ixt, o_sll, o_slt, if_true, if_false, decide_true, decide_false, retOf, Option.map_some, Bool.false_eq_true, Ex.P, a3_0, a3_1, at_at, truP, hb]
  | .op p a b, l, m, hm, hd, hl, ho => by
    obtain ⟨l, rfl⟩ : ∃ d', l = d' + 1 := ⟨l - 1, by simp only [Ex.dep] at hd; omega⟩
    have da : a.dep ≤ l := by simp only [Ex.dep] at hd; omega
    have db : b.dep ≤ l := by simp only [Ex.dep] at hd; omega
    have q := eq_leaf (.op p a b) .was (by omega)
    have q : cmpP .Eq (.tuple [.str p.nm, a.P, b.P]) (.tuple [.str "was"]) = some false := q
    have ia := fun acc => r_exby n w a l (m ++ [.lst acc]) (hm.appL acc) da (by omega) ho.1
    have ib := fun acc => r_exby n w b l (m ++ [.lst acc]) (hm.appL acc) db (by omega) ho.2
    refine call_data (f := f11) hm rfl rfl rfl ?_
    rw [show n + (l + 1) + 3 = n + l + 4 from rfl]
    generalize callN T (n + l + 4) = call at *
    have e1 : ((l + 1 : Nat) : Int) - 1 = (l : Int) := by omega
    have e0 : (((l + 1 : Nat) : Int) == 0) = false := by rw [beq_eq_false_iff_ne]; omega
    generalize ((l + 1 : Nat) : Int) = L at *
    have lc := lc_mapA (call := call) (t := .nm 4) (x := ["part"]) (s := .e (.sl (.var 0) (.so (.cst (.int 1))) .no)) (e := .call 11 "is_expr_by" (.cons (.var 4) (.cons (.var 1) (.cons (.var 2) (.cons (.bin .Sub (.var 3) (.cst (.int 1))) .nil))))) (env := [some (.d (.tuple [.str p.nm, a.P, b.P])), some (.d (.int w)), some (.d (.bool true)), some (.d (.int L)), none]) (m := m)
      [a, b] Ex.P (fun e => [some (.d (.tuple [.str p.nm, a.P, b.P])), some (.d (.int w)), some (.d (.bool true)), some (.d (.int L)), some (.d e.P)]) (fun _ => .bool true) hm (by simp only [List.map_cons, List.map_nil, List.length_cons, List.length_nil, List.replicate, List.cons_append, List.nil_append, List.getElem?_cons_zero, List.getElem?_cons_succ, List.set_cons_zero, List.set_cons_succ, Nat.reduceAdd, Nat.reduceSub, Nat.zero_add, denSs, denS, denE, denT, denTAnd, denTOr, denAnd, denOr, denEs, denO, denI, Res.bind, Res.bindN, rdd, rd, rds, dat, bol, mkL, dats, itsOf, setIx, isL, apIx, seqOf, setAll, bindT, bindTs, itsAll, p_int_n, p_int_b, p_int_i, p_int_s, p_int_l, p_int_t, p_int_d, p_bool_n, p_bool_b, p_bool_i, p_bool_s, p_bool_l, p_bool_t, p_bool_d, p_tuple_n, p_tuple_b, p_tuple_i, p_tuple_s, p_tuple_l, p_tuple_t, p_tuple_d, p_list_n, p_list_b, p_list_i, p_list_s, p_list_l, p_list_t, p_list_d, p_str_n, p_str_b, p_str_i, p_str_s, p_str_l, p_str_t, p_str_d, p_dict_n, p_dict_b, p_dict_i, p_dict_s, p_dict_l, p_dict_t, p_dict_d, Bool.true_or, Bool.or_true, Bool.false_or, Bool.or_false, Bool.true_and, Bool.and_true, Bool.false_and, Bool.and_false, Bool.not_true, Bool.not_false, o_len_l, o_len_t, o_abs, o_max, o_min, o_int, o_intb, o_tup_l, o_tup_t, o_list_l, o_list_t, o_all, o_any, o_divmod, o_max1, o_min1, o_sum1, o_str, o_strs, o_add, o_add_l, o_add_t, o_sub, o_mul, o_mul_l, o_mul_t, o_div, o_mod, o_pow, o_lt, o_le, o_gt, o_ge, o_eq, o_ne, o_nes, o_eqs, o_eqb, o_tn, o_tb, o_ti, o_tl, o_tt, o_ixl, o_ixt, o_sll, o_slt, if_true, if_false, decide_true, decide_false, retOf, Option.map_some, Bool.false_eq_true, cut3]) (by simp) (fun _ _ => rfl) (fun e he acc => by
        simp only [List.mem_cons, List.not_mem_nil, or_false] at he
        rcases he with rfl | rfl
        · simp only [List.map_cons, List.map_nil, List.length_cons, List.length_nil, List.replicate, List.cons_append, List.nil_append, List.getElem?_cons_zero, List.getElem?_cons_succ, List.set_cons_zero, List.set_cons_succ, Nat.reduceAdd, Nat.reduceSub, Nat.zero_add, denSs, denS, denE, denT, denTAnd, denTOr, denAnd, denOr, denEs, denO, denI, Res.bind, Res.bindN, rdd, rd, rds, dat, bol, mkL, dats, itsOf, setIx, isL, apIx, seqOf, setAll, bindT, bindTs, itsAll, p_int_n, p_int_b, p_int_i, p_int_s, p_int_l, p_int_t, p_int_d, p_bool_n, p_bool_b, p_bool_i, p_bool_s, p_bool_l, p_bool_t, p_bool_d, p_tuple_n, p_tuple_b, p_tuple_i, p_tuple_s, p_tuple_l, p_tuple_t, p_tuple_d, p_list_n, p_list_b, p_list_i, p_list_s, p_list_l, p_list_t, p_list_d, p_str_n, p_str_b, p_str_i, p_str_s, p_str_l, p_str_t, p_str_d, p_dict_n, p_dict_b, p_dict_i, p_dict_s, p_dict_l, p_dict_t, p_dict_d, Bool.true_or, Bool.or_true, Bool.false_or, Bool.or_false, Bool.true_and, Bool.and_true, Bool.false_and, Bool.and_false, Bool.not_true, Bool.not_false, o_len_l, o_len_t, o_abs, o_max, o_min, o_int, o_intb, o_tup_l, o_tup_t, o_list_l, o_list_t, o_all, o_any, o_divmod, o_max1, o_min1, o_sum1, o_str, o_strs, o_add, o_add_l, o_add_t, o_sub, o_mul, o_mul_l, o_mul_t, o_div, o_mod, o_pow, o_lt, o_le, o_gt, o_ge, o_eq, o_ne, o_nes, o_eqs, o_eqb, o_tn, o_tb, o_ti, o_tl, o_tt, o_ixl, o_ixt, o_sll, o_slt, if_true, if_false, decide_true, decide_false, retOf, Option.map_some, Bool.false_eq_true, e1, ia]
        · simp only [List.map_cons, List.map_nil, List.length_cons, List.length_nil, List.replicate, List.cons_append, List.nil_append, List.getElem?_cons_zero, List.getElem?_cons_succ, List.set_cons_zero, List.set_cons_succ, Nat.reduceAdd, Nat.reduceSub, Nat.zero_add, denSs, denS, denE, denT, denTAnd, denTOr, denAnd, denOr, denEs, denO, denI, Res.bind, Res.bindN, rdd, rd, rds, dat, bol, mkL, dats, itsOf, setIx, isL, apIx, seqOf, setAll, bindT, bindTs, itsAll, p_int_n, p_int_b, p_int_i, p_int_s, p_int_l, p_int_t, p_int_d, p_bool_n, p_bool_b, p_bool_i, p_bool_s, p_bool_l, p_bool_t, p_bool_d, p_tuple_n, p_tuple_b, p_tuple_i, p_tuple_s, p_tuple_l, p_tuple_t, p_tuple_d, p_list_n, p_list_b, p_list_i, p_list_s, p_list_l, p_list_t, p_list_d, p_str_n, p_str_b, p_str_i, p_str_s, p_str_l, p_str_t, p_str_d, p_dict_n, p_dict_b, p_dict_i, p_dict_s, p_dict_l, p_dict_t, p_dict_d, Bool.true_or, Bool.or_true, Bool.false_or, Bool.or_false, Bool.true_and, Bool.and_true, Bool.false_and, Bool.and_false, Bool.not_true, Bool.not_false, o_len_l, o_len_t, o_abs, o_max, o_min, o_int, o_intb, o_tup_l, o_tup_t, o_list_l, o_list_t, o_all, o_any, o_divmod, o_max1, o_min1, o_sum1, o_str, o_strs, o_add, o_add_l, o_add_t, o_sub, o_mul, o_mul_l, o_mul_t, o_div, o_mod, o_pow, o_lt, o_le, o_gt, o_ge, o_eq, o_ne, o_nes, o_eqs, o_eqb, o_tn, o_tb, o_ti, o_tl, o_tt, o_ixl, o_ixt, o_sll, o_slt, if_true, if_false, decide_true, decide_false, retOf, Option.map_some, Bool.false_eq_true, e1, ib])
    suffices h : denSs call f11.body [some (.d (.tuple [.str p.nm, a.P, b.P])), some (.d (.int w)), some (.d (.bool true)), some (.d (.int L)), none] m = .ok (.ret (.d (.bool true)), [some (.d (.tuple [.str p.nm, a.P, b.P])), some (.d (.int w)), some (.d (.bool true)), some (.d (.int L)), none]) m from congrArg retOf h
    refine seq_step (iff_n (m1 := m) ?_) (seq_step (iff_n (m1 := m) ?_) (seq_step (iff_n (m1 := m) ?_) (seq_step (iff_n (m1 := m) ?_) (ret_step ?_))))
    · simp only [List.map_cons, List.map_nil, List.length_cons, List.length_nil, List.replicate, List.cons_append, List.nil_append, List.getElem?_cons_zero, List.getElem?_cons_succ, List.set_cons_zero, List.set_cons_succ, Nat.reduceAdd, Nat.reduceSub, Nat.zero_add, denSs, denS, denE, denT, denTAnd, denTOr, denAnd, denOr, denEs, denO, denI, Res.bind, Res.bindN, rdd, rd, rds, dat, bol, mkL, dats, itsOf, setIx, isL, apIx, seqOf, setAll, bindT, bindTs, itsAll, p_int_n, p_int_b, p_int_i, p_int_s, p_int_l, p_int_t, p_int_d, p_bool_n, p_bool_b, p_bool_i, p_bool_s, p_bool_l, p_bool_t, p_bool_d, p_tuple_n, p_tuple_b, p_tuple_i, p_tuple_s, p_tuple_l, p_tuple_t, p_tuple_d, p_list_n, p_list_b, p_list_i, p_list_s, p_list_l, p_list_t, p_list_d, p_str_n, p_str_b, p_str_i, p_str_s, p_str_l, p_str_t, p_str_d, p_dict_n, p_dict_b, p_dict_i, p_dict_s, p_dict_l, p_dict_t, p_dict_d, Bool.true_or, Bool.or_true, Bool.false_or, Bool.or_false, Bool.true_and, Bool.and_true, Bool.false_and, Bool.and_false, Bool.not_true, Bool.not_false, o_len_l, o_len_t, o_abs, o_max, o_min, o_int, o_intb, o_tup_l, o_tup_t, o_list_l, o_list_t, o_all, o_any, o_divmod, o_max1, o_min1, o_sum1, o_str, o_strs, o_add, o_add_l, o_add_t, o_sub, o_mul, o_mul_l, o_mul_t, o_div, o_mod, o_pow, o_lt, o_le, o_gt, o_ge, o_eq, o_ne, o_nes, o_eqs, o_eqb, o_tn, o_tb, o_ti, o_tl, o_tt, o_ixl, o_ixt, o_sll, o_slt, if_true, if_false, decide_true, decide_false, retOf, Option.map_some, Bool.false_eq_true, truP]
    · simp only [List.map_cons, List.map_nil, List.length_cons, List.length_nil, List.replicate, List.cons_append, List.nil_append, List.getElem?_cons_zero, List.getElem?_cons_succ, List.set_cons_zero, List.set_cons_succ, Nat.reduceAdd, Nat.reduceSub, Nat.zero_add, denSs, denS, denE, denT, denTAnd, denTOr, denAnd, denOr, denEs, denO, denI, Res.bind, Res.bindN, rdd, rd, rds, dat, bol, mkL, dats, itsOf, setIx, isL, apIx, seqOf, setAll, bindT, bindTs, itsAll, p_int_n, p_int_b, p_int_i, p_int_s, p_int_l, p_int_t, p_int_d, p_bool_n, p_bool_b, p_bool_i, p_bool_s, p_bool_l, p_bool_t, p_bool_d, p_tuple_n, p_tuple_b, p_tuple_i, p_tuple_s, p_tuple_l, p_tuple_t, p_tuple_d, p_list_n, p_list_b, p_list_i, p_list_s, p_list_l, p_list_t, p_list_d, p_str_n, p_str_b, p_str_i, p_str_s, p_str_l, p_str_t, p_str_d, p_dict_n, p_dict_b, p_dict_i, p_dict_s, p_dict_l, p_dict_t, p_dict_d, Bool.true_or, Bool.or_true, Bool.false_or, Bool.or_false, Bool.true_and, Bool.and_true, Bool.false_and, Bool.and_false, Bool.not_true, Bool.not_false, o_len_l, o_len_t, o_abs, o_max, o_min, o_int, o_intb, o_tup_l, o_tup_t, o_list_l, o_list_t, o_all, o_any, o_divmod, o_max1, o_min1, o_sum1, o_str, o_strs, o_add, o_add_l, o_add_t, o_sub, o_mul, o_mul_l, o_mul_t, o_div, o_mod, o_pow, o_lt, o_le, o_gt, o_ge, o_eq, o_ne, o_nes, o_eqs, o_eqb, o_tn, o_tb, o_ti, o_tl, o_tt, o_ixl, o_ixt, o_sll, o_slt, if_true, if_false, decide_true, decide_false, retOf, Option.map_some, Bool.false_eq_true, sz_le, Nat.reduceLeDiff, q, truP]
    · simp only [List.map_cons, List.map_nil, List.length_cons, List.length_nil, List.replicate, List.cons_append, List.nil_append, List.getElem?_cons_zero, List.getElem?_cons_succ, List.set_cons_zero, List.set_cons_succ, Nat.reduceAdd, Nat.reduceSub, Nat.zero_add, denSs, denS, denE, denT, denTAnd, denTOr, denAnd, denOr, denEs, denO, denI, Res.bind, Res.bindN, rdd, rd, rds, dat, bol, mkL, dats, itsOf, setIx, isL, apIx, seqOf, setAll, bindT, bindTs, itsAll, p_int_n, p_int_b, p_int_i, p_int_s, p_int_l, p_int_t, p_int_d, p_bool_n, p_bool_b, p_bool_i, p_bool_s, p_bool_l, p_bool_t, p_bool_d, p_tuple_n, p_tuple_b, p_tuple_i, p_tuple_s, p_tuple_l, p_tuple_t, p_tuple_d, p_list_n, p_list_b, p_list_i, p_list_s, p_list_l, p_list_t, p_list_d, p_str_n, p_str_b, p_str_i, p_str_s, p_str_l, p_str_t, p_str_d, p_dict_n, p_dict_b, p_dict_i, p_dict_s, p_dict_l, p_dict_t, p_dict_d, Bool.true_or, Bool.or_true, Bool.false_or, Bool.or_false, Bool.true_and, Bool.and_true, Bool.false_and, Bool.and_false, Bool.not_true, Bool.not_false, o_len_l, o_len_t, o_abs, o_max, o_min, o_int, o_intb, o_tup_l, o_tup_t, o_list_l, o_list_t, o_all, o_any, o_divmod, o_max1, o_min1, o_sum1, o_str, o_strs, o_add, o_add_l, o_add_t, o_sub, o_mul, o_mul_l, o_mul_t, o_div, o_mod, o_pow, o_lt, o_le, o_gt, o_ge, o_eq, o_ne, o_nes, o_eqs, o_eqb, o_tn, o_tb, o_ti, o_tl, o_tt, o_ixl, o_ixt, o_sll, o_slt, if_true, if_false, decide_true, decide_false, retOf, Option.map_some, Bool.false_eq_true, truP, show (((3 : Nat) : Int) == 2) = false from by decide]
    · simp only [List.map_cons, List.map_nil, List.length_cons, List.length_nil, List.replicate, List.cons_append, List.nil_append, List.getElem?_cons_zero, List.getElem?_cons_succ, List.set_cons_zero, List.set_cons_succ, Nat.reduceAdd, Nat.reduceSub, Nat.zero_add, denSs, denS, denE, denT, denTAnd, denTOr, denAnd, denOr, denEs, denO, denI, Res.bind, Res.bindN, rdd, rd, rds, dat, bol, mkL, dats, itsOf, setIx, isL, apIx, seqOf, setAll, bindT, bindTs, itsAll, p_int_n, p_int_b, p_int_i, p_int_s, p_int_l, p_int_t, p_int_d, p_bool_n, p_bool_b, p_bool_i, p_bool_s, p_bool_l, p_bool_t, p_bool_d, p_tuple_n, p_tuple_b, p_tuple_i, p_tuple_s, p_tuple_l, p_tuple_t, p_tuple_d, p_list_n, p_list_b, p_list_i, p_list_s, p_list_l, p_list_t, p_list_d, p_str_n, p_str_b, p_str_i, p_str_s, p_str_l, p_str_t, p_str_d, p_dict_n, p_dict_b, p_dict_i, p_dict_s, p_dict_l, p_dict_t, p_dict_d, Bool.true_or, Bool.or_true, Bool.false_or, Bool.or_false, Bool.true_and, Bool.and_true, Bool.false_and, Bool.and_false, Bool.not_true, Bool.not_false, o_len_l, o_len_t, o_abs, o_max, o_min, o_int, o_intb, o_tup_l, o_tup_t, o_list_l, o_list_t, o_all, o_any, o_divmod, o_max1, o_min1, o_sum1, o_str, o_strs, o_add, o_add_l, o_add_t, o_sub, o_mul, o_mul_l, o_mul_t, o_div, o_mod, o_pow, o_lt, o_le, o_gt, o_ge, o_eq, o_ne, o_nes, o_eqs, o_eqb, o_tn, o_tb, o_ti, o_tl, o_tt, o_ixl, o_ixt, o_sll, o_slt, if_true, if_false, decide_true, decide_false, retOf, Option.map_some, Bool.false_eq_true, a3_0, truP, l33, e0, ops_in, Bool.not_true]
    · rw [denE, denEs, lc]
      simp only [Res.bind, denEs, rds, rd, Option.map_some, List.map_cons, List.map_nil, o_all, bools, List.all_cons, List.all_nil, id, Bool.and_self, dat]
theorem r_isexpr (n w : Nat) (hw : w ≤ 9) (e : Ex) (m : Mem) (hm : LD m) (hd : e.dep ≤ 4) (ho : e.Ok w) : callN T (n + 9) 12 [.d e.P, .d (.int w), .d (.bool true)] m = .ok (.d (.bool true)) m := by
  have h1' := need_run h0 h1 h2 (n + 5) (.int w) 0 9 m hm
  rw [show isBetween (.int (w : Int)) 0 9 = true by simp only [isBetween, Bool.and_eq_true, decide_eq_true_eq]; omega] at h1'
  have h2' := r_exby n w e 4 m hm hd (by omega) ho
  rw [show n + 5 + 3 = n + 8 from rfl] at h1'
  rw [show n + 4 + 4 = n + 8 from rfl] at h2'
  refine call_data (f := f12) hm rfl rfl rfl ?_
  generalize callN T (n + 8) = call at *
  generalize e.P = P at *
  have h2' : call 11 [.d P, .d (.int w), .d (.bool true), .d (.int 4)] m = .ok (.d (.bool true)) m := h2'
  simp only at h1'
  suffices h : denSs call f12.body [some (.d P), some (.d (.int w)), some (.d (.bool true))] m = .ok (.ret (.d (.bool true)), [some (.d P), some (.d (.int w)), some (.d (.bool true))]) m from congrArg retOf h
  refine seq_step (env1 := [some (.d P), some (.d (.int w)), some (.d (.bool true))]) (m1 := m) ?_ (ret_step ?_)
  · simp only [List.map_cons, List.map_nil, List.length_cons, List.length_nil, List.replicate, List.cons_append, List.nil_append, List.getElem?_cons_zero, List.getElem?_cons_succ, List.set_cons_zero, List.set_cons_succ, Nat.reduceAdd, Nat.reduceSub, Nat.zero_add, denSs, denS, denE, denT, denTAnd, denTOr, denAnd, denOr, denEs, denO, denI, Res.bind, Res.bindN, rdd, rd, rds, dat, bol, mkL, dats, itsOf, setIx, isL, apIx, seqOf, setAll, bindT, bindTs, itsAll, h1']
  · simp only [List.map_cons, List.map_nil, List.length_cons, List.length_nil, List.replicate, List.cons_append, List.nil_append, List.getElem?_cons_zero, List.getElem?_cons_succ, List.set_cons_zero, List.set_cons_succ, Nat.reduceAdd, Nat.reduceSub, Nat.zero_add, denSs, denS, denE, denT, denTAnd, denTOr, denAnd, denOr, denEs, denO, denI, Res.bind, Res.bindN, rdd, rd, rds, dat, bol, mkL, dats, itsOf, setIx, isL, apIx, seqOf, setAll, bindT, bindTs, itsAll, h2']
/-! ### _law_met -/
def W.D2 : W → PyData
  | .ok z => .tuple [.int 0, .int z]
  | .fall w => .tuple [.int 1, .str w]
theorem t_known : (["Falls", "NoNumber"] : List Str).contains ("Falls" : Str) = true := by decide +kernel
theorem t_acc : (["Falls"] : List Str).contains ("Falls" : Str) = true := by decide +kernel
theorem t_fld (w : Str) : List.lookup ("word" : Str) [(("word" : Str), PyData.str w)] = some (.str w) := by
  have : (("word" : Str) == ("word" : Str)) = true := by decide +kernel
  simp only [List.lookup, this]
theorem r_met (n : Nat) (r : List Int) (s : Int) (hr : ∀ i ∈ r, Wd i) (hs : Wd s) (e : Ex) (d : Nat) (m : Mem) (hm : LD m) (hd : e.dep ≤ d) (ho : e.Ok r.length) :
    callN T (n + d + 7) 20 [.d e.P, .d (.tuple (r.map .int)), .d (.int s)] m = .ok (.d (e.val r s).D2) m := by
  have h := r_worth n r s hr hs e d m hm hd ho
  cases q : e.val r s with
  | ok z =>
    rw [q] at h
    simp only at h
    exact call_data (f := f20) hm rfl rfl rfl (by simp only [f20, List.map_cons, List.map_nil, List.length_cons, List.length_nil, List.replicate, List.cons_append, List.nil_append, List.getElem?_cons_zero, List.getElem?_cons_succ, List.set_cons_zero, List.set_cons_succ, Nat.reduceAdd, Nat.reduceSub, Nat.zero_add, denSs, denS, denE, denT, denTAnd, denTOr, denAnd, denOr, denEs, denO, denI, Res.bind, Res.bindN, rdd, rd, rds, dat, bol, mkL, dats, itsOf, setIx, isL, apIx, seqOf, setAll, bindT, bindTs, itsAll, p_int_n, p_int_b, p_int_i, p_int_s, p_int_l, p_int_t, p_int_d, p_bool_n, p_bool_b, p_bool_i, p_bool_s, p_bool_l, p_bool_t, p_bool_d, p_tuple_n, p_tuple_b, p_tuple_i, p_tuple_s, p_tuple_l, p_tuple_t, p_tuple_d, p_list_n, p_list_b, p_list_i, p_list_s, p_list_l, p_list_t, p_list_d, p_str_n, p_str_b, p_str_i, p_str_s, p_str_l, p_str_t, p_str_d, p_dict_n, p_dict_b, p_dict_i, p_dict_s, p_dict_l, p_dict_t, p_dict_d, Bool.true_or, Bool.or_true, Bool.false_or, Bool.or_false, Bool.true_and, Bool.and_true, Bool.false_and, Bool.and_false, Bool.not_true, Bool.not_false, o_len_l, o_len_t, o_abs, o_max, o_min, o_int, o_intb, o_tup_l, o_tup_t, o_list_l, o_list_t, o_all, o_any, o_divmod, o_max1, o_min1, o_sum1, o_str, o_strs, o_add, o_add_l, o_add_t, o_sub, o_mul, o_mul_l, o_mul_t, o_div, o_mod, o_pow, o_lt, o_le, o_gt, o_ge, o_eq, o_ne, o_nes, o_eqs, o_eqb, o_tn, o_tb, o_ti, o_tl, o_tt, o_ixl, o_ixt, o_sll, o_slt, if_true, if_false, decide_true, decide_false, retOf, Option.map_some, Bool.false_eq_true, retOf, h, sz_le, Nat.reduceLeDiff, W.D2])
  | fall w =>
    rw [q] at h
    obtain ⟨t, h⟩ := h
    refine call_more (t := t) (f := f20) hm rfl rfl rfl ?_
    simp only [f20, List.map_cons, List.map_nil, List.length_cons, List.length_nil, List.replicate, List.cons_append, List.nil_append, List.getElem?_cons_zero, List.getElem?_cons_succ, List.set_cons_zero, List.set_cons_succ, Nat.reduceAdd, Nat.reduceSub, Nat.zero_add, denSs, denS, denE, denT, denTAnd, denTOr, denAnd, denOr, denEs, denO, denI, Res.bind, Res.bindN, rdd, rd, rds, dat, bol, mkL, dats, itsOf, setIx, isL, apIx, seqOf, setAll, bindT, bindTs, itsAll, h, falls, t_known, t_acc, if_true, denH, CHV.ok, CHV.den, t_fld, Option.isSome_some, Option.getD_some, retOf, W.D2, Bool.and_self, Bool.true_and, Bool.and_true]
/-! ### _law_bare -/
theorem set_same {m : Mem} {l : Nat} {o : Ob} (h : m[l]? = some o) : m.set l o = m := by
  apply List.ext_getElem?
  intro i
  by_cases hi : l = i
  · subst hi
    rw [List.getElem?_set_self (List.getElem?_eq_some_iff.mp h).1, h]
  · rw [List.getElem?_set_ne hi]
theorem set_at {m : Mem} {l : Nat} {o o' : Ob} (h : m[l]? = some o) : (m.set l o')[l]? = some o' := List.getElem?_set_self (List.getElem?_eq_some_iff.mp h).1
theorem bare_run1 (call : CallT) (i : Int) (l : Nat) (xs : List PyData) (m : Mem) (h : m[l]? = some (.lst xs)) (hz : xs.length < 1000) (k : Int) (hk : ((xs.length + 1 : Nat) : Int) - 1 = k) :
    retOf (denSs call f24.body [some (.d (.int i)), some (.loc l)] m) = .ok (.d (.tuple [.str "at", .int k])) (m.set l (.lst (xs ++ [.int i]))) := by
  have h2 := set_at (o' := Ob.lst (xs ++ [.int i])) h
  suffices hh : denSs call f24.body [some (.d (.int i)), some (.loc l)] m = .ok (.ret (.d (.tuple [.str "at", .int k])), [some (.d (.int i)), some (.loc l)]) (m.set l (.lst (xs ++ [.int i]))) from congrArg retOf hh
  have hlen : (xs ++ [PyData.int i]).length = xs.length + 1 := by simp
  have ap : denS call (.app (.var 1) (.var 0)) [some (.d (.int i)), some (.loc l)] m = .ok (.nx, [some (.d (.int i)), some (.loc l)]) (m.set l (.lst (xs ++ [.int i]))) := by
    simp only [denS, List.map_cons, List.map_nil, List.length_cons, List.length_nil, List.replicate, List.cons_append, List.nil_append, List.getElem?_cons_zero, List.getElem?_cons_succ, List.set_cons_zero, List.set_cons_succ, Nat.reduceAdd, Nat.reduceSub, Nat.zero_add, denE, Res.bind, isL, h, apIx, lt_sz hz, if_true]
  refine seq_ret (iff_t (m1 := m) (by simp only [List.map_cons, List.map_nil, List.length_cons, List.length_nil, List.replicate, List.cons_append, List.nil_append, List.getElem?_cons_zero, List.getElem?_cons_succ, List.set_cons_zero, List.set_cons_succ, Nat.reduceAdd, Nat.reduceSub, Nat.zero_add, denSs, denS, denE, denT, denTAnd, denTOr, denAnd, denOr, denEs, denO, denI, Res.bind, Res.bindN, rdd, rd, rds, dat, bol, mkL, dats, itsOf, setIx, isL, apIx, seqOf, setAll, bindT, bindTs, itsAll, p_int_n, p_int_b, p_int_i, p_int_s, p_int_l, p_int_t, p_int_d, p_bool_n, p_bool_b, p_bool_i, p_bool_s, p_bool_l, p_bool_t, p_bool_d, p_tuple_n, p_tuple_b, p_tuple_i, p_tuple_s, p_tuple_l, p_tuple_t, p_tuple_d, p_list_n, p_list_b, p_list_i, p_list_s, p_list_l, p_list_t, p_list_d, p_str_n, p_str_b, p_str_i, p_str_s, p_str_l, p_str_t, p_str_d, p_dict_n, p_dict_b, p_dict_i, p_dict_s, p_dict_l, p_dict_t, p_dict_d, Bool.true_or, Bool.or_true, Bool.false_or, Bool.or_false, Bool.true_and, Bool.and_true, Bool.false_and, Bool.and_false, Bool.not_true, Bool.not_false, o_len_l, o_len_t, o_abs, o_max, o_min, o_int, o_intb, o_tup_l, o_tup_t, o_list_l, o_list_t, o_all, o_any, o_divmod, o_max1, o_min1, o_sum1, o_str, o_strs, o_add, o_add_l, o_add_t, o_sub, o_mul, o_mul_l, o_mul_t, o_div, o_mod, o_pow, o_lt, o_le, o_gt, o_ge, o_eq, o_ne, o_nes, o_eqs, o_eqb, o_tn, o_tb, o_ti, o_tl, o_tt, o_ixl, o_ixt, o_sll, o_slt, if_true, if_false, decide_true, decide_false, retOf, Option.map_some, Bool.false_eq_true, truP]) (seq_step ap (ret_step ?_)))
  generalize m.set l (.lst (xs ++ [.int i])) = m2 at *
  generalize xs ++ [PyData.int i] = ys at *
  simp only [List.map_cons, List.map_nil, List.length_cons, List.length_nil, List.replicate, List.cons_append, List.nil_append, List.getElem?_cons_zero, List.getElem?_cons_succ, List.set_cons_zero, List.set_cons_succ, Nat.reduceAdd, Nat.reduceSub, Nat.zero_add, denSs, denS, denE, denT, denTAnd, denTOr, denAnd, denOr, denEs, denO, denI, Res.bind, Res.bindN, rdd, rd, rds, dat, bol, mkL, dats, itsOf, setIx, isL, apIx, seqOf, setAll, bindT, bindTs, itsAll, p_int_n, p_int_b, p_int_i, p_int_s, p_int_l, p_int_t, p_int_d, p_bool_n, p_bool_b, p_bool_i, p_bool_s, p_bool_l, p_bool_t, p_bool_d, p_tuple_n, p_tuple_b, p_tuple_i, p_tuple_s, p_tuple_l, p_tuple_t, p_tuple_d, p_list_n, p_list_b, p_list_i, p_list_s, p_list_l, p_list_t, p_list_d, p_str_n, p_str_b, p_str_i, p_str_s, p_str_l, p_str_t, p_str_d, p_dict_n, p_dict_b, p_dict_i, p_dict_s, p_dict_l, p_dict_t, p_dict_d, Bool.true_or, Bool.or_true, Bool.false_or, Bool.or_false, Bool.true_and, Bool.and_true, Bool.false_and, Bool.and_false, Bool.not_true, Bool.not_false, o_len_l, o_len_t, o_abs, o_max, o_min, o_int, o_intb, o_tup_l, o_tup_t, o_list_l, o_list_t, o_all, o_any, o_divmod, o_max1, o_min1, o_sum1, o_str, o_strs, o_add, o_add_l, o_add_t, o_sub, o_mul, o_mul_l, o_mul_t, o_div, o_mod, o_pow, o_lt, o_le, o_gt, o_ge, o_eq, o_ne, o_nes, o_eqs, o_eqb, o_tn, o_tb, o_ti, o_tl, o_tt, o_ixl, o_ixt, o_sll, o_slt, if_true, if_false, decide_true, decide_false, retOf, Option.map_some, Bool.false_eq_true, h2, hlen, hk, sz_le, Nat.reduceLeDiff]
theorem bare_run0 (call : CallT) (xs : List PyData) (l : Nat) (m : Mem) (h1 : xs.length ≠ 3) (hz : xs.length < 1000) : retOf (denSs call f24.body [some (.d (.tuple xs)), some (.loc l)] m) = .ok (.d (.tuple xs)) m := by
  suffices hh : denSs call f24.body [some (.d (.tuple xs)), some (.loc l)] m = .ok (.ret (.d (.tuple xs)), [some (.d (.tuple xs)), some (.loc l)]) m from congrArg retOf hh
  have e : ((xs.length : Int) == 3) = false := by rw [beq_eq_false_iff_ne]; omega
  refine seq_step (iff_n (m1 := m) ?_) (seq_step (iff_n (m1 := m) ?_) (ret_step ?_))
  · simp only [List.map_cons, List.map_nil, List.length_cons, List.length_nil, List.replicate, List.cons_append, List.nil_append, List.getElem?_cons_zero, List.getElem?_cons_succ, List.set_cons_zero, List.set_cons_succ, Nat.reduceAdd, Nat.reduceSub, Nat.zero_add, denSs, denS, denE, denT, denTAnd, denTOr, denAnd, denOr, denEs, denO, denI, Res.bind, Res.bindN, rdd, rd, rds, dat, bol, mkL, dats, itsOf, setIx, isL, apIx, seqOf, setAll, bindT, bindTs, itsAll, p_int_n, p_int_b, p_int_i, p_int_s, p_int_l, p_int_t, p_int_d, p_bool_n, p_bool_b, p_bool_i, p_bool_s, p_bool_l, p_bool_t, p_bool_d, p_tuple_n, p_tuple_b, p_tuple_i, p_tuple_s, p_tuple_l, p_tuple_t, p_tuple_d, p_list_n, p_list_b, p_list_i, p_list_s, p_list_l, p_list_t, p_list_d, p_str_n, p_str_b, p_str_i, p_str_s, p_str_l, p_str_t, p_str_d, p_dict_n, p_dict_b, p_dict_i, p_dict_s, p_dict_l, p_dict_t, p_dict_d, Bool.true_or, Bool.or_true, Bool.false_or, Bool.or_false, Bool.true_and, Bool.and_true, Bool.false_and, Bool.and_false, Bool.not_true, Bool.not_false, o_len_l, o_len_t, o_abs, o_max, o_min, o_int, o_intb, o_tup_l, o_tup_t, o_list_l, o_list_t, o_all, o_any, o_divmod, o_max1, o_min1, o_sum1, o_str, o_strs, o_add, o_add_l, o_add_t, o_sub, o_mul, o_mul_l, o_mul_t, o_div, o_mod, o_pow, o_lt, o_le, o_gt, o_ge, o_eq, o_ne, o_nes, o_eqs, o_eqb, o_tn, o_tb, o_ti, o_tl, o_tt, o_ixl, o_ixt, o_sll, o_slt, if_true, if_false, decide_true, decide_false, retOf, Option.map_some, Bool.false_eq_true, truP]
  · simp only [List.map_cons, List.map_nil, List.length_cons, List.length_nil, List.replicate, List.cons_append, List.nil_append, List.getElem?_cons_zero, List.getElem?_cons_succ, List.set_cons_zero, List.set_cons_succ, Nat.reduceAdd, Nat.reduceSub, Nat.zero_add, denSs, denS, denE, denT, denTAnd, denTOr, denAnd, denOr, denEs, denO, denI, Res.bind, Res.bindN, rdd, rd, rds, dat, bol, mkL, dats, itsOf, setIx, isL, apIx, seqOf, setAll, bindT, bindTs, itsAll, p_int_n, p_int_b, p_int_i, p_int_s, p_int_l, p_int_t, p_int_d, p_bool_n, p_bool_b, p_bool_i, p_bool_s, p_bool_l, p_bool_t, p_bool_d, p_tuple_n, p_tuple_b, p_tuple_i, p_tuple_s, p_tuple_l, p_tuple_t, p_tuple_d, p_list_n, p_list_b, p_list_i, p_list_s, p_list_l, p_list_t, p_list_d, p_str_n, p_str_b, p_str_i, p_str_s, p_str_l, p_str_t, p_str_d, p_dict_n, p_dict_b, p_dict_i, p_dict_s, p_dict_l, p_dict_t, p_dict_d, Bool.true_or, Bool.or_true, Bool.false_or, Bool.or_false, Bool.true_and, Bool.and_true, Bool.false_and, Bool.and_false, Bool.not_true, Bool.not_false, o_len_l, o_len_t, o_abs, o_max, o_min, o_int, o_intb, o_tup_l, o_tup_t, o_list_l, o_list_t, o_all, o_any, o_divmod, o_max1, o_min1, o_sum1, o_str, o_strs, o_add, o_add_l, o_add_t, o_sub, o_mul, o_mul_l, o_mul_t, o_div, o_mod, o_pow, o_lt, o_le, o_gt, o_ge, o_eq, o_ne, o_nes, o_eqs, o_eqb, o_tn, o_tb, o_ti, o_tl, o_tt, o_ixl, o_ixt, o_sll, o_slt, if_true, if_false, decide_true, decide_false, retOf, Option.map_some, Bool.false_eq_true, e, truP]
  · simp only [List.map_cons, List.map_nil, List.length_cons, List.length_nil, List.replicate, List.cons_append, List.nil_append, List.getElem?_cons_zero, List.getElem?_cons_succ, List.set_cons_zero, List.set_cons_succ, Nat.reduceAdd, Nat.reduceSub, Nat.zero_add, denSs, denS, denE, denT, denTAnd, denTOr, denAnd, denOr, denEs, denO, denI, Res.bind, Res.bindN, rdd, rd, rds, dat, bol, mkL, dats, itsOf, setIx, isL, apIx, seqOf, setAll, bindT, bindTs, itsAll]
theorem bare_run3 (call : CallT) (o a b x y : PyData) (l : Nat) (m m1 m2 : Mem) (ha : call 24 [.d a, .loc l] m = .ok (.d x) m1) (hb : call 24 [.d b, .loc l] m1 = .ok (.d y) m2) : retOf (denSs call f24.body [some (.d (.tuple [o, a, b])), some (.loc l)] m) = .ok (.d (.tuple [o, x, y])) m2 := by
  suffices hh : denSs call f24.body [some (.d (.tuple [o, a, b])), some (.loc l)] m = .ok (.ret (.d (.tuple [o, x, y])), [some (.d (.tuple [o, a, b])), some (.loc l)]) m2 from congrArg retOf hh
  refine seq_step (iff_n (m1 := m) ?_) (seq_ret (iff_t (m1 := m) ?_ (ret_step ?_)))
  · simp only [List.map_cons, List.map_nil, List.length_cons, List.length_nil, List.replicate, List.cons_append, List.nil_append, List.getElem?_cons_zero, List.getElem?_cons_succ, List.set_cons_zero, List.set_cons_succ, Nat.reduceAdd, Nat.reduceSub, Nat.zero_add, denSs, denS, denE, denT, denTAnd, denTOr, denAnd, denOr, denEs, denO, denI, Res.bind, Res.bindN, rdd, rd, rds, dat, bol, mkL, dats, itsOf, setIx, isL, apIx, seqOf, setAll, bindT, bindTs, itsAll, p_int_n, p_int_b, p_int_i, p_int_s, p_int_l, p_int_t, p_int_d, p_bool_n, p_bool_b, p_bool_i, p_bool_s, p_bool_l, p_bool_t, p_bool_d, p_tuple_n, p_tuple_b, p_tuple_i, p_tuple_s, p_tuple_l, p_tuple_t, p_tuple_d, p_list_n, p_list_b, p_list_i, p_list_s, p_list_l, p_list_t, p_list_d, p_str_n, p_str_b, p_str_i, p_str_s, p_str_l, p_str_t, p_str_d, p_dict_n, p_dict_b, p_dict_i, p_dict_s, p_dict_l, p_dict_t, p_dict_d, Bool.true_or, Bool.or_true, Bool.false_or, Bool.or_false, Bool.true_and, Bool.and_true, Bool.false_and, Bool.and_false, Bool.not_true, Bool.not_false, o_len_l, o_len_t, o_abs, o_max, o_min, o_int, o_intb, o_tup_l, o_tup_t, o_list_l, o_list_t, o_all, o_any, o_divmod, o_max1, o_min1, o_sum1, o_str, o_strs, o_add, o_add_l, o_add_t, o_sub, o_mul, o_mul_l, o_mul_t, o_div, o_mod, o_pow, o_lt, o_le, o_gt, o_ge, o_eq, o_ne, o_nes, o_eqs, o_eqb, o_tn, o_tb, o_ti, o_tl, o_tt, o_ixl, o_ixt, o_sll, o_slt, if_true, if_false, decide_true, decide_false, retOf, Option.map_some, Bool.false_eq_true, truP]
  · simp only [List.map_cons, List.map_nil, List.length_cons, List.length_nil, List.replicate, List.cons_append, List.nil_append, List.getElem?_cons_zero, List.getElem?_cons_succ, List.set_cons_zero, List.set_cons_succ, Nat.reduceAdd, Nat.reduceSub, Nat.zero_add, denSs, denS, denE, denT, denTAnd, denTOr, denAnd, denOr, denEs, denO, denI, Res.bind, Res.bindN, rdd, rd, rds, dat, bol, mkL, dats, itsOf, setIx, isL, apIx, seqOf, setAll, bindT, bindTs, itsAll, p_int_n, p_int_b, p_int_i, p_int_s, p_int_l, p_int_t, p_int_d, p_bool_n, p_bool_b, p_bool_i, p_bool_s, p_bool_l, p_bool_t, p_bool_d, p_tuple_n, p_tuple_b, p_tuple_i, p_tuple_s, p_tuple_l, p_tuple_t, p_tuple_d, p_list_n, p_list_b, p_list_i, p_list_s, p_list_l, p_list_t, p_list_d, p_str_n, p_str_b, p_str_i, p_str_s, p_str_l, p_str_t, p_str_d, p_dict_n, p_dict_b, p_dict_i, p_dict_s, p_dict_l, p_dict_t, p_dict_d, Bool.true_or, Bool.or_true, Bool.false_or, Bool.or_false, Bool.true_and, Bool.and_true, Bool.false_and, Bool.and_false, Bool.not_true, Bool.not_false, o_len_l, o_len_t, o_abs, o_max, o_min, o_int, o_intb, o_tup_l, o_tup_t, o_list_l, o_list_t, o_all, o_any, o_divmod, o_max1, o_min1, o_sum1, o_str, o_strs, o_add, o_add_l, o_add_t, o_sub, o_mul, o_mul_l, o_mul_t, o_div, o_mod, o_pow, o_lt, o_le, o_gt, o_ge, o_eq, o_ne, o_nes, o_eqs, o_eqb, o_tn, o_tb, o_ti, o_tl, o_tt, o_ixl, o_ixt, o_sll, o_slt, if_true, if_false, decide_true, decide_false, retOf, Option.map_some, Bool.false_eq_true, truP, l33]
  · simp only [List.map_cons, List.map_nil, List.length_cons, List.length_nil, List.replicate, List.cons_append, List.nil_append, List.getElem?_cons_zero, List.getElem?_cons_succ, List.set_cons_zero, List.set_cons_succ, Nat.reduceAdd, Nat.reduceSub, Nat.zero_add, denSs, denS, denE, denT, denTAnd, denTOr, denAnd, denOr, denEs, denO, denI, Res.bind, Res.bindN, rdd, rd, rds, dat, bol, mkL, dats, itsOf, setIx, isL, apIx, seqOf, setAll, bindT, bindTs, itsAll, p_int_n, p_int_b, p_int_i, p_int_s, p_int_l, p_int_t, p_int_d, p_bool_n, p_bool_b, p_bool_i, p_bool_s, p_bool_l, p_bool_t, p_bool_d, p_tuple_n, p_tuple_b, p_tuple_i, p_tuple_s, p_tuple_l, p_tuple_t, p_tuple_d, p_list_n, p_list_b, p_list_i, p_list_s, p_list_l, p_list_t, p_list_d, p_str_n, p_str_b, p_str_i, p_str_s, p_str_l, p_str_t, p_str_d, p_dict_n, p_dict_b, p_dict_i, p_dict_s, p_dict_l, p_dict_t, p_dict_d, Bool.true_or, Bool.or_true, Bool.false_or, Bool.or_false, Bool.true_and, Bool.and_true, Bool.false_and, Bool.and_false, Bool.not_true, Bool.not_false, o_len_l, o_len_t, o_abs, o_max, o_min, o_int, o_intb, o_tup_l, o_tup_t, o_list_l, o_list_t, o_all, o_any, o_divmod, o_max1, o_min1, o_sum1, o_str, o_strs, o_add, o_add_l, o_add_t, o_sub, o_mul, o_mul_l, o_mul_t, o_div, o_mod, o_pow, o_lt, o_le, o_gt, o_ge, o_eq, o_ne, o_nes, o_eqs, o_eqb, o_tn, o_tb, o_ti, o_tl, o_tt, o_ixl, o_ixt, o_sll, o_slt, if_true, if_false, decide_true, decide_false, retOf, Option.map_some, Bool.false_eq_true, a3_0, a3_1, a3_2, ha, hb, sz_le, Nat.reduceLeDiff]
theorem r_bare (n : Nat) : ∀ (e : Ex) (d : Nat) (m : Mem) (l : Nat) (ws : List Int), LD m → e.dep ≤ d → m[l]? = some (.lst (ws.map .int)) → ws.length + (e.bare ws.length).2.length ≤ 900 →
    callN T (n + d + 1) 24 [.d e.P, .loc l] m = .ok (.d (e.bare ws.length).1.P) (m.set l (.lst ((ws ++ (e.bare ws.length).2).map .int)))
  | .num i, d, m, l, ws, hm, hd, h, hz => by
    refine call_dataM (f := f24) (hm.setL _ _) (by simp) rfl rfl rfl ?_
    have hz : ws.length + 1 ≤ 900 := hz
    have e := bare_run1 (callN T (n + d)) i l (ws.map .int) m h (by rw [List.length_map]; omega) ws.length (by rw [List.length_map]; omega)
    rw [show (ws ++ (Ex.bare (.num i) ws.length).2).map PyData.int = ws.map .int ++ [.int i] by rw [List.map_append]; rfl]
    exact e
  | .at_ k, d, m, l, ws, hm, hd, h, hz => by
    have es : (ws ++ (Ex.bare (.at_ k) ws.length).2).map PyData.int = ws.map .int := by rw [show (Ex.bare (.at_ k) ws.length).2 = [] from rfl, List.append_nil]
    rw [es, set_same h]
    exact call_dataM (f := f24) hm rfl rfl rfl rfl (bare_run0 _ [.str "at", .int k] l m (by simp) (by simp))
  | .was, d, m, l, ws, hm, hd, h, hz => by
    have es : (ws ++ (Ex.bare .was ws.length).2).map PyData.int = ws.map .int := by rw [show (Ex.bare .was ws.length).2 = [] from rfl, List.append_nil]
    rw [es, set_same h]
    exact call_dataM (f := f24) hm rfl rfl rfl rfl (bare_run0 _ [.str "was"] l m (by simp) (by simp))
  | .op p a b, d, m, l, ws, hm, hd, h, hz => by
    obtain ⟨d, rfl⟩ : ∃ d', d = d' + 1 := ⟨d - 1, by simp only [Ex.dep] at hd; omega⟩
    have da : a.dep ≤ d := by simp only [Ex.dep] at hd; omega
    have db : b.dep ≤ d := by simp only [Ex.dep] at hd; omega
    simp only [Ex.bare, List.length_append] at hz ⊢
    have ia := r_bare n a d m l ws hm da h (by omega)
    have e1 : ws.length + (a.bare ws.length).2.length = (ws ++ (a.bare ws.length).2).length := by rw [List.length_append]
    have ib := r_bare n b d (m.set l (.lst ((ws ++ (a.bare ws.length).2).map .int))) l (ws ++ (a.bare ws.length).2) (hm.setL _ _) db (set_at h) (by rw [← e1]; omega)
    rw [← e1, List.set_set, List.append_assoc] at ib
    refine call_dataM (f := f24) (hm.setL _ _) (by simp) rfl rfl rfl ?_
    exact bare_run3 _ (.str p.nm) a.P b.P _ _ l m _ _ ia ib
/-! ### draws -/
theorem p9 : powOk 10 9 = true := by decide +kernel
theorem r_draw (n : Nat) (m : Mem) (l k : Nat) (N : Int) (hm : LD m) (hs : Sk m l k) (hk : k ≤ 1000000000) (h0 : 0 < N) (h1 : N < 2 ^ 40) :
    ∃ r m', callN T (n + 1) 16 [.loc l, .d (.int N)] m = .ok (.d (.int r)) m' ∧ 0 ≤ r ∧ r < N ∧ Dn m l (k + 1) m' := draw_run hD n m l k N hm hs hk h0 h1
theorem r_draw_in (n : Nat) (m : Mem) (l k : Nat) (N : Int) (a : List PyData) (hm : LD m) (hs : Sk m l k) (hk : k ≤ 900000000) (h0 : 0 < N) (h1 : N < 2 ^ 40) :
    ∃ r m', callN T (n + 1) 16 [.loc l, .d (.int N)] (m ++ [.lst a]) = .ok (.d (.int r)) (m' ++ [.lst a]) ∧ 0 ≤ r ∧ r < N ∧ Dn m l (k + 1) m' := draw_in hD n m l k N a hm hs hk h0 h1
theorem leaf_list (w : Int) (w0 : 0 ≤ w) (w1 : w < 21) : ∀ x ∈ [PyData.int 0, .int 1, .int 2, .int (-1), .int 3, .int (w - 10), .int 1000000000, .int (-1000000000)], ∃ i, x = .int i ∧ Wd i := by
  intro x hx
  simp only [List.mem_cons, List.not_mem_nil, or_false] at hx
  rcases hx with rfl | rfl | rfl | rfl | rfl | rfl | rfl | rfl <;> exact ⟨_, rfl, by constructor <;> omega⟩
theorem r_leaf (n : Nat) (m : Mem) (l k : Nat) (wide : Nat) (hm : LD m) (hs : Sk m l k) (hk : k ≤ 900000) (hw : wide ≤ 9) : ∃ (e : Ex) (m' : Mem), callN T (n + 2) 17 [.loc l, .d (.int wide), .d (.bool true)] m = .ok (.d e.P) m' ∧ e.Ok wide ∧ e.dep = 0 ∧ Dn m l (k + 3) m' := by
  obtain ⟨w, m1, e1, w0, w1, s1⟩ := r_draw n m l k 8 hm hs (by omega) (by omega) (by omega)
  by_cases h3 : w < 3
  · refine ⟨.was, m1, call_dataM (f := f17) s1.1 s1.len rfl rfl rfl ?_, True.intro, rfl, s1.mono (by omega)⟩
    simp only [f17, Ex.P, List.map_cons, List.map_nil, List.length_cons, List.length_nil, List.replicate, List.cons_append, List.nil_append, List.getElem?_cons_zero, List.getElem?_cons_succ, List.set_cons_zero, List.set_cons_succ, Nat.reduceAdd, Nat.reduceSub, Nat.zero_add, denSs, denS, denE, denT, denTAnd, denTOr, denAnd, denOr, denEs, denO, denI, Res.bind, Res.bindN, rdd, rd, rds, dat, bol, mkL, dats, itsOf, setIx, isL, apIx, seqOf, setAll, bindT, bindTs, itsAll, p_int_n, p_int_b, p_int_i, p_int_s, p_int_l, p_int_t, p_int_d, p_bool_n, p_bool_b, p_bool_i, p_bool_s, p_bool_l, p_bool_t, p_bool_d, p_tuple_n, p_tuple_b, p_tuple_i, p_tuple_s, p_tuple_l, p_tuple_t, p_tuple_d, p_list_n, p_list_b, p_list_i, p_list_s, p_list_l, p_list_t, p_list_d, p_str_n, p_str_b, p_str_i, p_str_s, p_str_l, p_str_t, p_str_d, p_dict_n, p_dict_b, p_dict_i, p_dict_s, p_dict_l, p_dict_t, p_dict_d, Bool.true_or, Bool.or_true, Bool.false_or, Bool.or_false, Bool.true_and, Bool.and_true, Bool.false_and, Bool.and_false, Bool.not_true, Bool.not_false, o_len_l, o_len_t, o_abs, o_max, o_min, o_int, o_intb, o_tup_l, o_tup_t, o_list_l, o_list_t, o_all, o_any, o_divmod, o_max1, o_min1, o_sum1, o_str, o_strs, o_add, o_add_l, o_add_t, o_sub, o_mul, o_mul_l, o_mul_t, o_div, o_mod, o_pow, o_lt, o_le, o_gt, o_ge, o_eq, o_ne, o_nes, o_eqs, o_eqb, o_tn, o_tb, o_ti, o_tl, o_tt, o_ixl, o_ixt, o_sll, o_slt, if_true, if_false, decide_true, decide_false, retOf, Option.map_some, Bool.false_eq_true, e1, h3, sz_le, Nat.reduceLeDiff]
  · by_cases h6 : 0 < (wide : Int) ∧ w < 6
    · obtain ⟨i, m2, e2, i0, i1, s2⟩ := r_draw n m1 l (k + 1) wide s1.1 s1.2.2 (by omega) h6.1 (by omega)
      refine ⟨.at_ i.toNat, m2, call_dataM (f := f17) s2.1 (s1.trans s2).len rfl rfl rfl ?_, (show i.toNat < wide by omega), rfl, (s1.trans s2).mono (by omega)⟩
      have ei : ((i.toNat : Nat) : Int) = i := Int.toNat_of_nonneg i0
      simp only [f17, Ex.P, List.map_cons, List.map_nil, List.length_cons, List.length_nil, List.replicate, List.cons_append, List.nil_append, List.getElem?_cons_zero, List.getElem?_cons_succ, List.set_cons_zero, List.set_cons_succ, Nat.reduceAdd, Nat.reduceSub, Nat.zero_add, denSs, denS, denE, denT, denTAnd, denTOr, denAnd, denOr, denEs, denO, denI, Res.bind, Res.bindN, rdd, rd, rds, dat, bol, mkL, dats, itsOf, setIx, isL, apIx, seqOf, setAll, bindT, bindTs, itsAll, p_int_n, p_int_b, p_int_i, p_int_s, p_int_l, p_int_t, p_int_d, p_bool_n, p_bool_b, p_bool_i, p_bool_s, p_bool_l, p_bool_t, p_bool_d, p_tuple_n, p_tuple_b, p_tuple_i, p_tuple_s, p_tuple_l, p_tuple_t, p_tuple_d, p_list_n, p_list_b, p_list_i, p_list_s, p_list_l, p_list_t, p_list_d, p_str_n, p_str_b, p_str_i, p_str_s, p_str_l, p_str_t, p_str_d, p_dict_n, p_dict_b, p_dict_i, p_dict_s, p_dict_l, p_dict_t, p_dict_d, Bool.true_or, Bool.or_true, Bool.false_or, Bool.or_false, Bool.true_and, Bool.and_true, Bool.false_and, Bool.and_false, Bool.not_true, Bool.not_false, o_len_l, o_len_t, o_abs, o_max, o_min, o_int, o_intb, o_tup_l, o_tup_t, o_list_l, o_list_t, o_all, o_any, o_divmod, o_max1, o_min1, o_sum1, o_str, o_strs, o_add, o_add_l, o_add_t, o_sub, o_mul, o_mul_l, o_mul_t, o_div, o_mod, o_pow, o_lt, o_le, o_gt, o_ge, o_eq, o_ne, o_nes, o_eqs, o_eqb, o_tn, o_tb, o_ti, o_tl, o_tt, o_ixl, o_ixt, o_sll, o_slt, if_true, if_false, decide_true, decide_false, retOf, Option.map_some, Bool.false_eq_true, e1, h3, h6.1, h6.2, e2, ei, sz_le, Nat.reduceLeDiff]
    · obtain ⟨u, m2, e2, u0, u1, s2⟩ := r_draw n m1 l (k + 1) 21 s1.1 s1.2.2 (by omega) (by omega) (by omega)
      obtain ⟨v, m3, e3, v0, v1, s3⟩ := r_draw n m2 l (k + 2) 8 s2.1 s2.2.2 (by omega) (by omega) (by omega)
      obtain ⟨x, ex, i, rfl, hi⟩ := atI_all (xs := [PyData.int 0, .int 1, .int 2, .int (-1), .int 3, .int (u - 10), .int 1000000000, .int (-1000000000)]) v0 v1 (leaf_list u u0 u1)
      refine ⟨.num i, m3, call_dataM (f := f17) s3.1 ((s1.trans s2).trans s3).len rfl rfl rfl ?_, hi, rfl, ((s1.trans s2).trans s3).mono (by omega)⟩
      have g : (decide (0 < (wide : Int)) = true ∧ decide (w < 6) = true) ∨ ¬ (decide (0 < (wide : Int)) = true ∧ decide (w < 6) = true) := Classical.em _
      by_cases q1 : 0 < (wide : Int)
      · have q2 : ¬ w < 6 := fun z => h6 ⟨q1, z⟩
        simp only [f17, Ex.P, List.map_cons, List.map_nil, List.length_cons, List.length_nil, List.replicate, List.cons_append, List.nil_append, List.getElem?_cons_zero, List.getElem?_cons_succ, List.set_cons_zero, List.set_cons_succ, Nat.reduceAdd, Nat.reduceSub, Nat.zero_add, denSs, denS, denE, denT, denTAnd, denTOr, denAnd, denOr, denEs, denO, denI, Res.bind, Res.bindN, rdd, rd, rds, dat, bol, mkL, dats, itsOf, setIx, isL, apIx, seqOf, setAll, bindT, bindTs, itsAll, p_int_n, p_int_b, p_int_i, p_int_s, p_int_l, p_int_t, p_int_d, p_bool_n, p_bool_b, p_bool_i, p_bool_s, p_bool_l, p_bool_t, p_bool_d, p_tuple_n, p_tuple_b, p_tuple_i, p_tuple_s, p_tuple_l, p_tuple_t, p_tuple_d, p_list_n, p_list_b, p_list_i, p_list_s, p_list_l, p_list_t, p_list_d, p_str_n, p_str_b, p_str_i, p_str_s, p_str_l, p_str_t, p_str_d, p_dict_n, p_dict_b, p_dict_i, p_dict_s, p_dict_l, p_dict_t, p_dict_d, Bool.true_or, Bool.or_true, Bool.false_or, Bool.or_false, Bool.true_and, Bool.and_true, Bool.false_and, Bool.and_false, Bool.not_true, Bool.not_false, o_len_l, o_len_t, o_abs, o_max, o_min, o_int, o_intb, o_tup_l, o_tup_t, o_list_l, o_list_t, o_all, o_any, o_divmod, o_max1, o_min1, o_sum1, o_str, o_strs, o_add, o_add_l, o_add_t, o_sub, o_mul, o_mul_l, o_mul_t, o_div, o_mod, o_pow, o_lt, o_le, o_gt, o_ge, o_eq, o_ne, o_nes, o_eqs, o_eqb, o_tn, o_tb, o_ti, o_tl, o_tt, o_ixl, o_ixt, o_sll, o_slt, if_true, if_false, decide_true, decide_false, retOf, Option.map_some, Bool.false_eq_true, e1, h3, q1, q2, e2, e3, ex, p9, Int.reducePow, Int.reduceToNat, Int.reduceNeg, sz_le, Nat.reduceLeDiff]
      · simp only [f17, Ex.P, List.map_cons, List.map_nil, List.length_cons, List.length_nil, List.replicate, List.cons_append, List.nil_append, List.getElem?_cons_zero, List.getElem?_cons_succ, List.set_cons_zero, List.set_cons_succ, Nat.reduceAdd, Nat.reduceSub, Nat.zero_add, denSs, denS, denE, denT, denTAnd, denTOr, denAnd, denOr, denEs, denO, denI, Res.bind, Res.bindN, rdd, rd, rds, dat, bol, mkL, dats, itsOf, setIx, isL, apIx, seqOf, setAll, bindT, bindTs, itsAll, p_int_n, p_int_b, p_int_i, p_int_s, p_int_l, p_int_t, p_int_d, p_bool_n, p_bool_b, p_bool_i, p_bool_s, p_bool_l, p_bool_t, p_bool_d, p_tuple_n, p_tuple_b, p_tuple_i, p_tuple_s, p_tuple_l, p_tuple_t, p_tuple_d, p_list_n, p_list_b, p_list_i, p_list_s, p_list_l, p_list_t, p_list_d, p_str_n, p_str_b, p_str_i, p_str_s, p_str_l, p_str_t, p_str_d, p_dict_n, p_dict_b, p_dict_i, p_dict_s, p_dict_l, p_dict_t, p_dict_d, Bool.true_or, Bool.or_true, Bool.false_or, Bool.or_false, Bool.true_and, Bool.and_true, Bool.false_and, Bool.and_false, Bool.not_true, Bool.not_false, o_len_l, o_len_t, o_abs, o_max, o_min, o_int, o_intb, o_tup_l, o_tup_t, o_list_l, o_list_t, o_all, o_any, o_divmod, o_max1, o_min1, o_sum1, o_str, o_strs, o_add, o_add_l, o_add_t, o_sub, o_mul, o_mul_l, o_mul_t, o_div, o_mod, o_pow, o_lt, o_le, o_gt, o_ge, o_eq, o_ne, o_nes, o_eqs, o_eqb, o_tn, o_tb, o_ti, o_tl, o_tt, o_ixl, o_ixt, o_sll, o_slt, if_true, if_false, decide_true, decide_false, retOf, Option.map_some, Bool.false_eq_true, e1, h3, q1, e2, e3, ex, p9, Int.reducePow, Int.reduceToNat, Int.reduceNeg, sz_le, Nat.reduceLeDiff]
theorem word_list : ∀ x ∈ [PyData.int 1000000000, .int (-1000000000), .int 40000, .int (-40000)], ∃ i, x = .int i ∧ Wd i := by
  intro x hx
  simp only [List.mem_cons, List.not_mem_nil, or_false] at hx
  rcases hx with rfl | rfl | rfl | rfl <;> exact ⟨_, rfl, by constructor <;> omega⟩
theorem r_wordD (n : Nat) (m : Mem) (l k : Nat) (hm : LD m) (hs : Sk m l k) (hk : k ≤ 900000) : ∃ (i : Int) (m' : Mem), callN T (n + 2) 19 [.loc l] m = .ok (.d (.int i)) m' ∧ Wd i ∧ Dn m l (k + 2) m' := by
  obtain ⟨w, m1, e1, w0, w1, s1⟩ := r_draw n m l k 5 hm hs (by omega) (by omega) (by omega)
  by_cases h3 : w < 3
  · obtain ⟨i, m2, e2, i0, i1, s2⟩ := r_draw n m1 l (k + 1) 9 s1.1 s1.2.2 (by omega) (by omega) (by omega)
    refine ⟨i - 4, m2, call_dataM (f := f19) s2.1 (s1.trans s2).len rfl rfl rfl ?_, ⟨by omega, by omega⟩, (s1.trans s2).mono (by omega)⟩
    simp only [f19, List.map_cons, List.map_nil, List.length_cons, List.length_nil, List.replicate, List.cons_append, List.nil_append, List.getElem?_cons_zero, List.getElem?_cons_succ, List.set_cons_zero, List.set_cons_succ, Nat.reduceAdd, Nat.reduceSub, Nat.zero_add, denSs, denS, denE, denT, denTAnd, denTOr, denAnd, denOr, denEs, denO, denI, Res.bind, Res.bindN, rdd, rd, rds, dat, bol, mkL, dats, itsOf, setIx, isL, apIx, seqOf, setAll, bindT, bindTs, itsAll, p_int_n, p_int_b, p_int_i, p_int_s, p_int_l, p_int_t, p_int_d, p_bool_n, p_bool_b, p_bool_i, p_bool_s, p_bool_l, p_bool_t, p_bool_d, p_tuple_n, p_tuple_b, p_tuple_i, p_tuple_s, p_tuple_l, p_tuple_t, p_tuple_d, p_list_n, p_list_b, p_list_i, p_list_s, p_list_l, p_list_t, p_list_d, p_str_n, p_str_b, p_str_i, p_str_s, p_str_l, p_str_t, p_str_d, p_dict_n, p_dict_b, p_dict_i, p_dict_s, p_dict_l, p_dict_t, p_dict_d, Bool.true_or, Bool.or_true, Bool.false_or, Bool.or_false, Bool.true_and, Bool.and_true, Bool.false_and, Bool.and_false, Bool.not_true, Bool.not_false, o_len_l, o_len_t, o_abs, o_max, o_min, o_int, o_intb, o_tup_l, o_tup_t, o_list_l, o_list_t, o_all, o_any, o_divmod, o_max1, o_min1, o_sum1, o_str, o_strs, o_add, o_add_l, o_add_t, o_sub, o_mul, o_mul_l, o_mul_t, o_div, o_mod, o_pow, o_lt, o_le, o_gt, o_ge, o_eq, o_ne, o_nes, o_eqs, o_eqb, o_tn, o_tb, o_ti, o_tl, o_tt, o_ixl, o_ixt, o_sll, o_slt, if_true, if_false, decide_true, decide_false, retOf, Option.map_some, Bool.false_eq_true, e1, h3, e2]
  · by_cases h4 : w = 3
    · subst h4
      obtain ⟨v, m2, e2, v0, v1, s2⟩ := r_draw n m1 l (k + 1) 4 s1.1 s1.2.2 (by omega) (by omega) (by omega)
      obtain ⟨x, ex, i, rfl, hi⟩ := atI_all (xs := [PyData.int 1000000000, .int (-1000000000), .int 40000, .int (-40000)]) v0 v1 word_list
      refine ⟨i, m2, call_dataM (f := f19) s2.1 (s1.trans s2).len rfl rfl rfl ?_, hi, (s1.trans s2).mono (by omega)⟩
      simp only [f19, List.map_cons, List.map_nil, List.length_cons, List.length_nil, List.replicate, List.cons_append, List.nil_append, List.getElem?_cons_zero, List.getElem?_cons_succ, List.set_cons_zero, List.set_cons_succ, Nat.reduceAdd, Nat.reduceSub, Nat.zero_add, denSs, denS, denE, denT, denTAnd, denTOr, denAnd, denOr, denEs, denO, denI, Res.bind, Res.bindN, rdd, rd, rds, dat, bol, mkL, dats, itsOf, setIx, isL, apIx, seqOf, setAll, bindT, bindTs, itsAll, p_int_n, p_int_b, p_int_i, p_int_s, p_int_l, p_int_t, p_int_d, p_bool_n, p_bool_b, p_bool_i, p_bool_s, p_bool_l, p_bool_t, p_bool_d, p_tuple_n, p_tuple_b, p_tuple_i, p_tuple_s, p_tuple_l, p_tuple_t, p_tuple_d, p_list_n, p_list_b, p_list_i, p_list_s, p_list_l, p_list_t, p_list_d, p_str_n, p_str_b, p_str_i, p_str_s, p_str_l, p_str_t, p_str_d, p_dict_n, p_dict_b, p_dict_i, p_dict_s, p_dict_l, p_dict_t, p_dict_d, Bool.true_or, Bool.or_true, Bool.false_or, Bool.or_false, Bool.true_and, Bool.and_true, Bool.false_and, Bool.and_false, Bool.not_true, Bool.not_false, o_len_l, o_len_t, o_abs, o_max, o_min, o_int, o_intb, o_tup_l, o_tup_t, o_list_l, o_list_t, o_all, o_any, o_divmod, o_max1, o_min1, o_sum1, o_str, o_strs, o_add, o_add_l, o_add_t, o_sub, o_mul, o_mul_l, o_mul_t, o_div, o_mod, o_pow, o_lt, o_le, o_gt, o_ge, o_eq, o_ne, o_nes, o_eqs, o_eqb, o_tn, o_tb, o_ti, o_tl, o_tt, o_ixl, o_ixt, o_sll, o_slt, if_true, if_false, decide_true, decide_false, retOf, Option.map_some, Bool.false_eq_true, e1, h3, e2, BEq.rfl, ex, p9, Int.reducePow, Int.reduceToNat, Int.reduceNeg, Int.reduceSub, sz_le, Nat.reduceLeDiff]
    · have h5 : (w == 3) = false := by simpa using h4
      obtain ⟨i, m2, e2, i0, i1, s2⟩ := r_draw n m1 l (k + 1) 2000000001 s1.1 s1.2.2 (by omega) (by omega) (by omega)
      refine ⟨i - 1000000000, m2, call_dataM (f := f19) s2.1 (s1.trans s2).len rfl rfl rfl ?_, ⟨by omega, by omega⟩, (s1.trans s2).mono (by omega)⟩
      have k1 : mulOk 2 1000000000 = true := mOk (by decide) (by decide)
      simp only [f19, List.map_cons, List.map_nil, List.length_cons, List.length_nil, List.replicate, List.cons_append, List.nil_append, List.getElem?_cons_zero, List.getElem?_cons_succ, List.set_cons_zero, List.set_cons_succ, Nat.reduceAdd, Nat.reduceSub, Nat.zero_add, denSs, denS, denE, denT, denTAnd, denTOr, denAnd, denOr, denEs, denO, denI, Res.bind, Res.bindN, rdd, rd, rds, dat, bol, mkL, dats, itsOf, setIx, isL, apIx, seqOf, setAll, bindT, bindTs, itsAll, p_int_n, p_int_b, p_int_i, p_int_s, p_int_l, p_int_t, p_int_d, p_bool_n, p_bool_b, p_bool_i, p_bool_s, p_bool_l, p_bool_t, p_bool_d, p_tuple_n, p_tuple_b, p_tuple_i, p_tuple_s, p_tuple_l, p_tuple_t, p_tuple_d, p_list_n, p_list_b, p_list_i, p_list_s, p_list_l, p_list_t, p_list_d, p_str_n, p_str_b, p_str_i, p_str_s, p_str_l, p_str_t, p_str_d, p_dict_n, p_dict_b, p_dict_i, p_dict_s, p_dict_l, p_dict_t, p_dict_d, Bool.true_or, Bool.or_true, Bool.false_or, Bool.or_false, Bool.true_and, Bool.and_true, Bool.false_and, Bool.and_false, Bool.not_true, Bool.not_false, o_len_l, o_len_t, o_abs, o_max, o_min, o_int, o_intb, o_tup_l, o_tup_t, o_list_l, o_list_t, o_all, o_any, o_divmod, o_max1, o_min1, o_sum1, o_str, o_strs, o_add, o_add_l, o_add_t, o_sub, o_mul, o_mul_l, o_mul_t, o_div, o_mod, o_pow, o_lt, o_le, o_gt, o_ge, o_eq, o_ne, o_nes, o_eqs, o_eqb, o_tn, o_tb, o_ti, o_tl, o_tt, o_ixl, o_ixt, o_sll, o_slt, if_true, if_false, decide_true, decide_false, retOf, Option.map_some, Bool.false_eq_true, e1, h3, h5, e2, p9, Int.reducePow, Int.reduceToNat, Int.reduceMul, Int.reduceAdd, k1]
/-! ### _law_expr -/
def opsL : List Op := [.plus, .minus, .times, .over, .rest, .less, .same, .plus, .less, .rest]
theorem op_at (w : Int) (w0 : 0 ≤ w) (w1 : w < 10) : ∃ o : Op, L2.atI [PyData.str "plus", .str "minus", .str "times", .str "over", .str "rest", .str "less", .str "same", .str "plus", .str "less", .str "rest"] w = some (.str o.nm) := by
  obtain ⟨x, ex, o, rfl⟩ := atI_all (P := fun x => ∃ o : Op, x = PyData.str o.nm) (xs := opsL.map fun o => PyData.str o.nm) w0 w1 (by
    intro x hx
    obtain ⟨o, _, rfl⟩ := List.mem_map.mp hx
    exact ⟨o, rfl⟩)
  exact ⟨o, ex⟩
theorem div_list : ∀ x ∈ [PyData.int 1, .int 2, .int 3, .int (-2), .int 7], ∃ i, x = .int i ∧ Wd i := by
  intro x hx
  simp only [List.mem_cons, List.not_mem_nil, or_false] at hx
  rcases hx with rfl | rfl | rfl | rfl | rfl <;> exact ⟨_, rfl, by constructor <;> omega⟩
theorem c_in (o : Op) : ∃ b, cmpP .In (.str o.nm) (.tuple [.str "over", .str "rest"]) = some b := ⟨_, rfl⟩
def ex1 : CSs := match f18.body with
  | .cons _ (.cons _ (.cons _ r)) => r
  | _ => .nil
theorem ex_pre (call : CallT) (l : Nat) (wd dp w u : Int) (o : Op) (P : PyData) (m m1 m2 m3 : Mem) {R : Res (Fl × Sl)} (h1 : ¬ dp < 1) (e1 : call 16 [.loc l, .d (.int 3)] m = .ok (.d (.int w)) m1) (hw : (w == 0) = false)
    (e2 : call 16 [.loc l, .d (.int 10)] m1 = .ok (.d (.int u)) m2) (eo : L2.atI [PyData.str "plus", .str "minus", .str "times", .str "over", .str "rest", .str "less", .str "same", .str "plus", .str "less", .str "rest"] u = some (.str o.nm))
    (e3 : call 18 [.loc l, .d (.int wd), .d (.int (dp - 1)), .d (.bool true)] m2 = .ok (.d P) m3)
    (h : denSs call ex1 [some (.loc l), some (.d (.int wd)), some (.d (.int dp)), some (.d (.bool true)), some (.d (.str o.nm)), some (.d P)] m3 = R) :
    denSs call f18.body [some (.loc l), some (.d (.int wd)), some (.d (.int dp)), some (.d (.bool true)), none, none] m = R := by
  refine seq_step (iff_n (m1 := m1) (by simp only [List.map_cons, List.map_nil, List.length_cons, List.length_nil, List.replicate, List.cons_append, List.nil_append, List.getElem?_cons_zero, List.getElem?_cons_succ, List.set_cons_zero, List.set_cons_succ, Nat.reduceAdd, Nat.reduceSub, Nat.zero_add, denSs, denS, denE, denT, denTAnd, denTOr, denAnd, denOr, denEs, denO, denI, Res.bind, Res.bindN, rdd, rd, rds, dat, bol, mkL, dats, itsOf, setIx, isL, apIx, seqOf, setAll, bindT, bindTs, itsAll, p_int_n, p_int_b, p_int_i, p_int_s, p_int_l, p_int_t, p_int_d, p_bool_n, p_bool_b, p_bool_i, p_bool_s, p_bool_l, p_bool_t, p_bool_d, p_tuple_n, p_tuple_b, p_tuple_i, p_tuple_s, p_tuple_l, p_tuple_t, p_tuple_d, p_list_n, p_list_b, p_list_i, p_list_s, p_list_l, p_list_t, p_list_d, p_str_n, p_str_b, p_str_i, p_str_s, p_str_l, p_str_t, p_str_d, p_dict_n, p_dict_b, p_dict_i, p_dict_s, p_dict_l, p_dict_t, p_dict_d, Bool.true_or, Bool.or_true, Bool.false_or, Bool.or_false, Bool.true_and, Bool.and_true, Bool.false_and, Bool.and_false, Bool.not_true, Bool.not_false, o_len_l, o_len_t, o_abs, o_max, o_min, o_int, o_intb, o_tup_l, o_tup_t, o_list_l, o_list_t, o_all, o_any, o_divmod, o_max1, o_min1, o_sum1, o_str, o_strs, o_add, o_add_l, o_add_t, o_sub, o_mul, o_mul_l, o_mul_t, o_div, o_mod, o_pow, o_lt, o_le, o_gt, o_ge, o_eq, o_ne, o_nes, o_eqs, o_eqb, o_tn, o_tb, o_ti, o_tl, o_tt, o_ixl, o_ixt, o_sll, o_slt, if_true, if_false, decide_true, decide_false, retOf, Option.map_some, Bool.false_eq_true, h1, e1, hw, truP])) ?_
  refine seq_step (set_step (v := .d (.str o.nm)) (m1 := m2) (by simp only [List.map_cons, List.map_nil, List.length_cons, List.length_nil, List.replicate, List.cons_append, List.nil_append, List.getElem?_cons_zero, List.getElem?_cons_succ, List.set_cons_zero, List.set_cons_succ, Nat.reduceAdd, Nat.reduceSub, Nat.zero_add, denSs, denS, denE, denT, denTAnd, denTOr, denAnd, denOr, denEs, denO, denI, Res.bind, Res.bindN, rdd, rd, rds, dat, bol, mkL, dats, itsOf, setIx, isL, apIx, seqOf, setAll, bindT, bindTs, itsAll, p_int_n, p_int_b, p_int_i, p_int_s, p_int_l, p_int_t, p_int_d, p_bool_n, p_bool_b, p_bool_i, p_bool_s, p_bool_l, p_bool_t, p_bool_d, p_tuple_n, p_tuple_b, p_tuple_i, p_tuple_s, p_tuple_l, p_tuple_t, p_tuple_d, p_list_n, p_list_b, p_list_i, p_list_s, p_list_l, p_list_t, p_list_d, p_str_n, p_str_b, p_str_i, p_str_s, p_str_l, p_str_t, p_str_d, p_dict_n, p_dict_b, p_dict_i, p_dict_s, p_dict_l, p_dict_t, p_dict_d, Bool.true_or, Bool.or_true, Bool.false_or, Bool.or_false, Bool.true_and, Bool.and_true, Bool.false_and, Bool.and_false, Bool.not_true, Bool.not_false, o_len_l, o_len_t, o_abs, o_max, o_min, o_int, o_intb, o_tup_l, o_tup_t, o_list_l, o_list_t, o_all, o_any, o_divmod, o_max1, o_min1, o_sum1, o_str, o_strs, o_add, o_add_l, o_add_t, o_sub, o_mul, o_mul_l, o_mul_t, o_div, o_mod, o_pow, o_lt, o_le, o_gt, o_ge, o_eq, o_ne, o_nes, o_eqs, o_eqb, o_tn, o_tb, o_ti, o_tl, o_tt, o_ixl, o_ixt, o_sll, o_slt, if_true, if_false, decide_true, decide_false, retOf, Option.map_some, Bool.false_eq_true, e2, eo, sz_le, Nat.reduceLeDiff])) ?_
  exact seq_step (set_step (v := .d P) (m1 := m3) (by simp only [List.map_cons, List.map_nil, List.length_cons, List.length_nil, List.replicate, List.cons_append, List.nil_append, List.getElem?_cons_zero, List.getElem?_cons_succ, List.set_cons_zero, List.set_cons_succ, Nat.reduceAdd, Nat.reduceSub, Nat.zero_add, denSs, denS, denE, denT, denTAnd, denTOr, denAnd, denOr, denEs, denO, denI, Res.bind, Res.bindN, rdd, rd, rds, dat, bol, mkL, dats, itsOf, setIx, isL, apIx, seqOf, setAll, bindT, bindTs, itsAll, p_int_n, p_int_b, p_int_i, p_int_s, p_int_l, p_int_t, p_int_d, p_bool_n, p_bool_b, p_bool_i, p_bool_s, p_bool_l, p_bool_t, p_bool_d, p_tuple_n, p_tuple_b, p_tuple_i, p_tuple_s, p_tuple_l, p_tuple_t, p_tuple_d, p_list_n, p_list_b, p_list_i, p_list_s, p_list_l, p_list_t, p_list_d, p_str_n, p_str_b, p_str_i, p_str_s, p_str_l, p_str_t, p_str_d, p_dict_n, p_dict_b, p_dict_i, p_dict_s, p_dict_l, p_dict_t, p_dict_d, Bool.true_or, Bool.or_true, Bool.false_or, Bool.or_false, Bool.true_and, Bool.and_true, Bool.false_and, Bool.and_false, Bool.not_true, Bool.not_false, o_len_l, o_len_t, o_abs, o_max, o_min, o_int, o_intb, o_tup_l, o_tup_t, o_list_l, o_list_t, o_all, o_any, o_divmod, o_max1, o_min1, o_sum1, o_str, o_strs, o_add, o_add_l, o_add_t, o_sub, o_mul, o_mul_l, o_mul_t, o_div, o_mod, o_pow, o_lt, o_le, o_gt, o_ge, o_eq, o_ne, o_nes, o_eqs, o_eqb, o_tn, o_tb, o_ti, o_tl, o_tt, o_ixl, o_ixt, o_sll, o_slt, if_true, if_false, decide_true, decide_false, retOf, Option.map_some, Bool.false_eq_true, e3])) h
theorem r_expr (n : Nat) (l wide : Nat) (hw : wide ≤ 9) : ∀ (f : Nat) (deep : Int) (m : Mem) (k : Nat), f ≤ 4 → deep ≤ f → LD m → Sk m l k → k + 8 * 2 ^ f ≤ 80000 →
    ∃ (e : Ex) (m' : Mem), callN T (n + f + 3) 18 [.loc l, .d (.int wide), .d (.int deep), .d (.bool true)] m = .ok (.d e.P) m' ∧ e.Ok wide ∧ e.dep ≤ f ∧ Dn m l (k + 8 * 2 ^ f - 3) m'
  | f, deep, m, k, hf, hd, hm, hs, hk => by
    have hp : 1 ≤ 2 ^ f := Nat.one_le_two_pow
    by_cases h1 : deep < 1
    · obtain ⟨e, m1, e1, o1, d1, s1⟩ := r_leaf (n + f) m l k wide hm hs (by omega) hw
      refine ⟨e, m1, call_dataM (f := f18) s1.1 s1.len rfl rfl rfl ?_, o1, by omega, s1.mono (by omega)⟩
      generalize callN T (n + f + 2) = call at *
      suffices h : denSs call f18.body [some (.loc l), some (.d (.int wide)), some (.d (.int deep)), some (.d (.bool true)), none, none] m = .ok (.ret (.d e.P), [some (.loc l), some (.d (.int wide)), some (.d (.int deep)), some (.d (.bool true)), none, none]) m1 from congrArg retOf h
      exact seq_ret (iff_t (m1 := m) (by simp only [List.map_cons, List.map_nil, List.length_cons, List.length_nil, List.replicate, List.cons_append, List.nil_append, List.getElem?_cons_zero, List.getElem?_cons_succ, List.set_cons_zero, List.set_cons_succ, Nat.reduceAdd, Nat.reduceSub, Nat.zero_add, denSs, denS, denE, denT, denTAnd, denTOr, denAnd, denOr, denEs, denO, denI, Res.bind, Res.bindN, rdd, rd, rds, dat, bol, mkL, dats, itsOf, setIx, isL, apIx, seqOf, setAll, bindT, bindTs, itsAll, p_int_n, p_int_b, p_int_i, p_int_s, p_int_l, p_int_t, p_int_d, p_bool_n, p_bool_b, p_bool_i, p_bool_s, p_bool_l, p_bool_t, p_bool_d, p_tuple_n, p_tuple_b, p_tuple_i, p_tuple_s, p_tuple_l, p_tuple_t, p_tuple_d, p_list_n, p_list_b, p_list_i, p_list_s, p_list_l, p_list_t, p_list_d, p_str_n, p_str_b, p_str_i, p_str_s, p_str_l, p_str_t, p_str_d, p_dict_n, p_dict_b, p_dict_i, p_dict_s, p_dict_l, p_dict_t, p_dict_d, Bool.true_or, Bool.or_true, Bool.false_or, Bool.or_false, Bool.true_and, Bool.and_true, Bool.false_and, Bool.and_false, Bool.not_true, Bool.not_false, o_len_l, o_len_t, o_abs, o_max, o_min, o_int, o_intb, o_tup_l, o_tup_t, o_list_l, o_list_t, o_all, o_any, o_divmod, o_max1, o_min1, o_sum1, o_str, o_strs, o_add, o_add_l, o_add_t, o_sub, o_mul, o_mul_l, o_mul_t, o_div, o_mod, o_pow, o_lt, o_le, o_gt, o_ge, o_eq, o_ne, o_nes, o_eqs, o_eqb, o_tn, o_tb, o_ti, o_tl, o_tt, o_ixl, o_ixt, o_sll, o_slt, if_true, if_false, decide_true, decide_false, retOf, Option.map_some, Bool.false_eq_true, h1, truP]) (ret_step (by simp only [List.map_cons, List.map_nil, List.length_cons, List.length_nil, List.replicate, List.cons_append, List.nil_append, List.getElem?_cons_zero, List.getElem?_cons_succ, List.set_cons_zero, List.set_cons_succ, Nat.reduceAdd, Nat.reduceSub, Nat.zero_add, denSs, denS, denE, denT, denTAnd, denTOr, denAnd, denOr, denEs, denO, denI, Res.bind, Res.bindN, rdd, rd, rds, dat, bol, mkL, dats, itsOf, setIx, isL, apIx, seqOf, setAll, bindT, bindTs, itsAll, e1])))
    · obtain ⟨g, rfl⟩ : ∃ g, f = g + 1 := ⟨f - 1, by omega⟩
      have hp2 : 2 ^ (g + 1) = 2 * 2 ^ g := by rw [Nat.pow_succ]; omega
      have hp3 : 1 ≤ 2 ^ g := Nat.one_le_two_pow
      obtain ⟨w, m1, e1, w0, w1, s1⟩ := r_draw (n + (g + 1) + 1) m l k 3 hm hs (by omega) (by omega) (by omega)
      by_cases h2 : w = 0
      · subst h2
        obtain ⟨e, m2, e2, o1, d1, s2⟩ := r_leaf (n + (g + 1)) m1 l (k + 1) wide s1.1 s1.2.2 (by omega) hw
        refine ⟨e, m2, call_dataM (f := f18) s2.1 (s1.trans s2).len rfl rfl rfl ?_, o1, by omega, (s1.trans s2).mono (by omega)⟩
        rw [show n + (g + 1) + 1 + 1 = n + (g + 1) + 2 from rfl] at e1
        generalize callN T (n + (g + 1) + 2) = call at *
        suffices h : denSs call f18.body [some (.loc l), some (.d (.int wide)), some (.d (.int deep)), some (.d (.bool true)), none, none] m = .ok (.ret (.d e.P), [some (.loc l), some (.d (.int wide)), some (.d (.int deep)), some (.d (.bool true)), none, none]) m2 from congrArg retOf h
        exact seq_ret (iff_t (m1 := m1) (by simp only [List.map_cons, List.map_nil, List.length_cons, List.length_nil, List.replicate, List.cons_append, List.nil_append, List.getElem?_cons_zero, List.getElem?_cons_succ, List.set_cons_zero, List.set_cons_succ, Nat.reduceAdd, Nat.reduceSub, Nat.zero_add, denSs, denS, denE, denT, denTAnd, denTOr, denAnd, denOr, denEs, denO, denI, Res.bind, Res.bindN, rdd, rd, rds, dat, bol, mkL, dats, itsOf, setIx, isL, apIx, seqOf, setAll, bindT, bindTs, itsAll, p_int_n, p_int_b, p_int_i, p_int_s, p_int_l, p_int_t, p_int_d, p_bool_n, p_bool_b, p_bool_i, p_bool_s, p_bool_l, p_bool_t, p_bool_d, p_tuple_n, p_tuple_b, p_tuple_i, p_tuple_s, p_tuple_l, p_tuple_t, p_tuple_d, p_list_n, p_list_b, p_list_i, p_list_s, p_list_l, p_list_t, p_list_d, p_str_n, p_str_b, p_str_i, p_str_s, p_str_l, p_str_t, p_str_d, p_dict_n, p_dict_b, p_dict_i, p_dict_s, p_dict_l, p_dict_t, p_dict_d, Bool.true_or, Bool.or_true, Bool.false_or, Bool.or_false, Bool.true_and, Bool.and_true, Bool.false_and, Bool.and_false, Bool.not_true, Bool.not_false, o_len_l, o_len_t, o_abs, o_max, o_min, o_int, o_intb, o_tup_l, o_tup_t, o_list_l, o_list_t, o_all, o_any, o_divmod, o_max1, o_min1, o_sum1, o_str, o_strs, o_add, o_add_l, o_add_t, o_sub, o_mul, o_mul_l, o_mul_t, o_div, o_mod, o_pow, o_lt, o_le, o_gt, o_ge, o_eq, o_ne, o_nes, o_eqs, o_eqb, o_tn, o_tb, o_ti, o_tl, o_tt, o_ixl, o_ixt, o_sll, o_slt, if_true, if_false, decide_true, decide_false, retOf, Option.map_some, Bool.false_eq_true, h1, e1, BEq.rfl, truP]) (ret_step (by simp only [List.map_cons, List.map_nil, List.length_cons, List.length_nil, List.replicate, List.cons_append, List.nil_append, List.getElem?_cons_zero, List.getElem?_cons_succ, List.set_cons_zero, List.set_cons_succ, Nat.reduceAdd, Nat.reduceSub, Nat.zero_add, denSs, denS, denE, denT, denTAnd, denTOr, denAnd, denOr, denEs, denO, denI, Res.bind, Res.bindN, rdd, rd, rds, dat, bol, mkL, dats, itsOf, setIx, isL, apIx, seqOf, setAll, bindT, bindTs, itsAll, e2])))
      · have h2' : (w == 0) = false := by simpa using h2
        obtain ⟨u, m2, e2, u0, u1, s2⟩ := r_draw (n + (g + 1) + 1) m1 l (k + 1) 10 s1.1 s1.2.2 (by omega) (by omega) (by omega)
        obtain ⟨o, eo⟩ := op_at u u0 u1
        obtain ⟨a, m3, e3, oa, da, s3⟩ := r_expr n l wide hw g (deep - 1) m2 (k + 2) (by omega) (by omega) s2.1 s2.2.2 (by omega)
        obtain ⟨v, m4, e4, v0, v1, s4⟩ := r_draw (n + (g + 1) + 1) m3 l (k + 2 + 8 * 2 ^ g - 3) 5 s3.1 s3.2.2 (by omega) (by omega) (by omega)
        obtain ⟨z, m5, e5, z0, z1, s5⟩ := r_draw (n + (g + 1) + 1) m4 l (k + 2 + 8 * 2 ^ g - 3 + 1) 5 s4.1 s4.2.2 (by omega) (by omega) (by omega)
        obtain ⟨x, ex, i, rfl, hi⟩ := atI_all z0 (by simpa using z1) div_list
        obtain ⟨b, m6, e6, ob, db, s6⟩ := r_expr n l wide hw g (deep - 1) m4 (k + 2 + 8 * 2 ^ g - 3 + 1) (by omega) (by omega) s4.1 s4.2.2 (by omega)
        obtain ⟨c, m7, e7, oc, dc, s7⟩ := r_expr n l wide hw g (deep - 1) m3 (k + 2 + 8 * 2 ^ g - 3) (by omega) (by omega) s3.1 s3.2.2 (by omega)
        have st3 := (s1.trans s2).trans s3
        have st5 := (st3.trans s4).trans s5
        have st6 := (st3.trans s4).trans s6
        have st7 := st3.trans s7
        rw [show n + (g + 1) + 1 + 1 = n + (g + 1) + 2 from rfl] at e1 e2 e4 e5
        rw [show n + g + 3 = n + (g + 1) + 2 from by omega] at e3 e6 e7
        have fin : ∀ (e : Ex) (mm : Mem), LD mm → mm.length = m.length → denSs (callN T (n + (g + 1) + 2)) ex1 [some (.loc l), some (.d (.int wide)), some (.d (.int deep)), some (.d (.bool true)), some (.d (.str o.nm)), some (.d a.P)] m3 = .ok (.ret (.d e.P), [some (.loc l), some (.d (.int wide)), some (.d (.int deep)), some (.d (.bool true)), some (.d (.str o.nm)), some (.d a.P)]) mm → callN T (n + (g + 1) + 3) 18 [.loc l, .d (.int wide), .d (.int deep), .d (.bool true)] m = .ok (.d e.P) mm := fun e mm h hl hh =>
          call_dataM (f := f18) h hl rfl rfl rfl (congrArg retOf (ex_pre _ l wide deep w u o a.P m m1 m2 m3 h1 e1 h2' e2 eo e3 hh))
        obtain ⟨bb, hin⟩ := c_in o
        cases bb with
        | false =>
          refine ⟨.op o a c, m7, fin _ _ st7.1 st7.len ?_, ⟨oa, oc⟩, by simp only [Ex.dep]; omega, st7.mono (by omega)⟩
          generalize callN T (n + (g + 1) + 2) = call at *
          refine seq_step (iff_n (m1 := m3) (by simp only [List.map_cons, List.map_nil, List.length_cons, List.length_nil, List.replicate, List.cons_append, List.nil_append, List.getElem?_cons_zero, List.getElem?_cons_succ, List.set_cons_zero, List.set_cons_succ, Nat.reduceAdd, Nat.reduceSub, Nat.zero_add, denSs, denS, denE, denT, denTAnd, denTOr, denAnd, denOr, denEs, denO, denI, Res.bind, Res.bindN, rdd, rd, rds, dat, bol, mkL, dats, itsOf, setIx, isL, apIx, seqOf, setAll, bindT, bindTs, itsAll, p_int_n, p_int_b, p_int_i, p_int_s, p_int_l, p_int_t, p_int_d, p_bool_n, p_bool_b, p_bool_i, p_bool_s, p_bool_l, p_bool_t, p_bool_d, p_tuple_n, p_tuple_b, p_tuple_i, p_tuple_s, p_tuple_l, p_tuple_t, p_tuple_d, p_list_n, p_list_b, p_list_i, p_list_s, p_list_l, p_list_t, p_list_d, p_str_n, p_str_b, p_str_i, p_str_s, p_str_l, p_str_t, p_str_d, p_dict_n, p_dict_b, p_dict_i, p_dict_s, p_dict_l, p_dict_t, p_dict_d, Bool.true_or, Bool.or_true, Bool.false_or, Bool.or_false, Bool.true_and, Bool.and_true, Bool.false_and, Bool.and_false, Bool.not_true, Bool.not_false, o_len_l, o_len_t, o_abs, o_max, o_min, o_int, o_intb, o_tup_l, o_tup_t, o_list_l, o_list_t, o_all, o_any, o_divmod, o_max1, o_min1, o_sum1, o_str, o_strs, o_add, o_add_l, o_add_t, o_sub, o_mul, o_mul_l, o_mul_t, o_div, o_mod, o_pow, o_lt, o_le, o_gt, o_ge, o_eq, o_ne, o_nes, o_eqs, o_eqb, o_tn, o_tb, o_ti, o_tl, o_tt, o_ixl, o_ixt, o_sll, o_slt, if_true, if_false, decide_true, decide_false, retOf, Option.map_some, Bool.false_eq_true, sz_le, Nat.reduceLeDiff, hin, truP])) (ret_step ?_)
          simp only [List.map_cons, List.map_nil, List.length_cons, List.length_nil, List.replicate, List.cons_append, List.nil_append, List.getElem?_cons_zero, List.getElem?_cons_succ, List.set_cons_zero, List.set_cons_succ, Nat.reduceAdd, Nat.reduceSub, Nat.zero_add, denSs, denS, denE, denT, denTAnd, denTOr, denAnd, denOr, denEs, denO, denI, Res.bind, Res.bindN, rdd, rd, rds, dat, bol, mkL, dats, itsOf, setIx, isL, apIx, seqOf, setAll, bindT, bindTs, itsAll, p_int_n, p_int_b, p_int_i, p_int_s, p_int_l, p_int_t, p_int_d, p_bool_n, p_bool_b, p_bool_i, p_bool_s, p_bool_l, p_bool_t, p_bool_d, p_tuple_n, p_tuple_b, p_tuple_i, p_tuple_s, p_tuple_l, p_tuple_t, p_tuple_d, p_list_n, p_list_b, p_list_i, p_list_s, p_list_l, p_list_t, p_list_d, p_str_n, p_str_b, p_str_i, p_str_s, p_str_l, p_str_t, p_str_d, p_dict_n, p_dict_b, p_dict_i, p_dict_s, p_dict_l, p_dict_t, p_dict_d, Bool.true_or, Bool.or_true, Bool.false_or, Bool.or_false, Bool.true_and, Bool.and_true, Bool.false_and, Bool.and_false, Bool.not_true, Bool.not_false, o_len_l, o_len_t, o_abs, o_max, o_min, o_int, o_intb, o_tup_l, o_tup_t, o_list_l, o_list_t, o_all, o_any, o_divmod, o_max1, o_min1, o_sum1, o_str, o_strs, o_add, o_add_l, o_add_t, o_sub, o_mul, o_mul_l, o_mul_t, o_div, o_mod, o_pow, o_lt, o_le, o_gt, o_ge, o_eq, o_ne, o_nes, o_eqs, o_eqb, o_tn, o_tb, o_ti, o_tl, o_tt, o_ixl, o_ixt, o_sll, o_slt, if_true, if_false, decide_true, decide_false, retOf, Option.map_some, Bool.false_eq_true, e7, sz_le, Nat.reduceLeDiff, Ex.P]
        | true =>
          by_cases hv : 0 < v
          · refine ⟨.op o a (.num i), m5, fin _ _ st5.1 st5.len ?_, ⟨oa, hi⟩, by simp only [Ex.dep]; omega, st5.mono (by omega)⟩
            generalize callN T (n + (g + 1) + 2) = call at *
            refine seq_ret (iff_t (m1 := m4) (by simp only [List.map_cons, List.map_nil, List.length_cons, List.length_nil, List.replicate, List.cons_append, List.nil_append, List.getElem?_cons_zero, List.getElem?_cons_succ, List.set_cons_zero, List.set_cons_succ, Nat.reduceAdd, Nat.reduceSub, Nat.zero_add, denSs, denS, denE, denT, denTAnd, denTOr, denAnd, denOr, denEs, denO, denI, Res.bind, Res.bindN, rdd, rd, rds, dat, bol, mkL, dats, itsOf, setIx, isL, apIx, seqOf, setAll, bindT, bindTs, itsAll, p_int_n, p_int_b, p_int_i, p_int_s, p_int_l, p_int_t, p_int_d, p_bool_n, p_bool_b, p_bool_i, p_bool_s, p_bool_l, p_bool_t, p_bool_d, p_tuple_n, p_tuple_b, p_tuple_i, p_tuple_s, p_tuple_l, p_tuple_t, p_tuple_d, p_list_n, p_list_b, p_list_i, p_list_s, p_list_l, p_list_t, p_list_d, p_str_n, p_str_b, p_str_i, p_str_s, p_str_l, p_str_t, p_str_d, p_dict_n, p_dict_b, p_dict_i, p_dict_s, p_dict_l, p_dict_t, p_dict_d, Bool.true_or, Bool.or_true, Bool.false_or, Bool.or_false, Bool.true_and, Bool.and_true, Bool.false_and, Bool.and_false, Bool.not_true, Bool.not_false, o_len_l, o_len_t, o_abs, o_max, o_min, o_int, o_intb, o_tup_l, o_tup_t, o_list_l, o_list_t, o_all, o_any, o_divmod, o_max1, o_min1, o_sum1, o_str, o_strs, o_add, o_add_l, o_add_t, o_sub, o_mul, o_mul_l, o_mul_t, o_div, o_mod, o_pow, o_lt, o_le, o_gt, o_ge, o_eq, o_ne, o_nes, o_eqs, o_eqb, o_tn, o_tb, o_ti, o_tl, o_tt, o_ixl, o_ixt, o_sll, o_slt, if_true, if_false, decide_true, decide_false, retOf, Option.map_some, Bool.false_eq_true, sz_le, Nat.reduceLeDiff, hin, e4, hv, truP]) (ret_step ?_))
            simp only [List.map_cons, List.map_nil, List.length_cons, List.length_nil, List.replicate, List.cons_append, List.nil_append, List.getElem?_cons_zero, List.getElem?_cons_succ, List.set_cons_zero, List.set_cons_succ, Nat.reduceAdd, Nat.reduceSub, Nat.zero_add, denSs, denS, denE, denT, denTAnd, denTOr, denAnd, denOr, denEs, denO, denI, Res.bind, Res.bindN, rdd, rd, rds, dat, bol, mkL, dats, itsOf, setIx, isL, apIx, seqOf, setAll, bindT, bindTs, itsAll, p_int_n, p_int_b, p_int_i, p_int_s, p_int_l, p_int_t, p_int_d, p_bool_n, p_bool_b, p_bool_i, p_bool_s, p_bool_l, p_bool_t, p_bool_d, p_tuple_n, p_tuple_b, p_tuple_i, p_tuple_s, p_tuple_l, p_tuple_t, p_tuple_d, p_list_n, p_list_b, p_list_i, p_list_s, p_list_l, p_list_t, p_list_d, p_str_n, p_str_b, p_str_i, p_str_s, p_str_l, p_str_t, p_str_d, p_dict_n, p_dict_b, p_dict_i, p_dict_s, p_dict_l, p_dict_t, p_dict_d, Bool.true_or, Bool.or_true, Bool.false_or, Bool.or_false, Bool.true_and, Bool.and_true, Bool.false_and, Bool.and_false, Bool.not_true, Bool.not_false, o_len_l, o_len_t, o_abs, o_max, o_min, o_int, o_intb, o_tup_l, o_tup_t, o_list_l, o_list_t, o_all, o_any, o_divmod, o_max1, o_min1, o_sum1, o_str, o_strs, o_add, o_add_l, o_add_t, o_sub, o_mul, o_mul_l, o_mul_t, o_div, o_mod, o_pow, o_lt, o_le, o_gt, o_ge, o_eq, o_ne, o_nes, o_eqs, o_eqb, o_tn, o_tb, o_ti, o_tl, o_tt, o_ixl, o_ixt, o_sll, o_slt, if_true, if_false, decide_true, decide_false, retOf, Option.map_some, Bool.false_eq_true, e5, ex, sz_le, Nat.reduceLeDiff, Int.reduceNeg, Ex.P]
          · refine ⟨.op o a b, m6, fin _ _ st6.1 st6.len ?_, ⟨oa, ob⟩, by simp only [Ex.dep]; omega, st6.mono (by omega)⟩
            generalize callN T (n + (g + 1) + 2) = call at *
            refine seq_step (iff_n (m1 := m4) (by simp only [List.map_cons, List.map_nil, List.length_cons, List.length_nil, List.replicate, List.cons_append, List.nil_append, List.getElem?_cons_zero, List.getElem?_cons_succ, List.set_cons_zero, List.set_cons_succ, Nat.reduceAdd, Nat.reduceSub, Nat.zero_add, denSs, denS, denE, denT, denTAnd, denTOr, denAnd, denOr, denEs, denO, denI, Res.bind, Res.bindN, rdd, rd, rds, dat, bol, mkL, dats, itsOf, setIx, isL, apIx, seqOf, setAll, bindT, bindTs, itsAll, p_int_n, p_int_b, p_int_i, p_int_s, p_int_l, p_int_t, p_int_d, p_bool_n, p_bool_b, p_bool_i, p_bool_s, p_bool_l, p_bool_t, p_bool_d, p_tuple_n, p_tuple_b, p_tuple_i, p_tuple_s, p_tuple_l, p_tuple_t, p_tuple_d, p_list_n, p_list_b, p_list_i, p_list_s, p_list_l, p_list_t, p_list_d, p_str_n, p_str_b, p_str_i, p_str_s, p_str_l, p_str_t, p_str_d, p_dict_n, p_dict_b, p_dict_i, p_dict_s, p_dict_l, p_dict_t, p_dict_d, Bool.true_or, Bool.or_true, Bool.false_or, Bool.or_false, Bool.true_and, Bool.and_true, Bool.false_and, Bool.and_false, Bool.not_true, Bool.not_false, o_len_l, o_len_t, o_abs, o_max, o_min, o_int, o_intb, o_tup_l, o_tup_t, o_list_l, o_list_t, o_all, o_any, o_divmod, o_max1, o_min1, o_sum1, o_str, o_strs, o_add, o_add_l, o_add_t, o_sub, o_mul, o_mul_l, o_mul_t, o_div, o_mod, o_pow, o_lt, o_le, o_gt, o_ge, o_eq, o_ne, o_nes, o_eqs, o_eqb, o_tn, o_tb, o_ti, o_tl, o_tt, o_ixl, o_ixt, o_sll, o_slt, if_true, if_false, decide_true, decide_false, retOf, Option.map_some, Bool.false_eq_true, sz_le, Nat.reduceLeDiff, hin, e4, hv, truP])) (ret_step ?_)
            simp only [List.map_cons, List.map_nil, List.length_cons, List.length_nil, List.replicate, List.cons_append, List.nil_append, List.getElem?_cons_zero, List.getElem?_cons_succ, List.set_cons_zero, List.set_cons_succ, Nat.reduceAdd, Nat.reduceSub, Nat.zero_add, denSs, denS, denE, denT, denTAnd, denTOr, denAnd, denOr, denEs, denO, denI, Res.bind, Res.bindN, rdd, rd, rds, dat, bol, mkL, dats, itsOf, setIx, isL, apIx, seqOf, setAll, bindT, bindTs, itsAll, p_int_n, p_int_b, p_int_i, p_int_s, p_int_l, p_int_t, p_int_d, p_bool_n, p_bool_b, p_bool_i, p_bool_s, p_bool_l, p_bool_t, p_bool_d, p_tuple_n, p_tuple_b, p_tuple_i, p_tuple_s, p_tuple_l, p_tuple_t, p_tuple_d, p_list_n, p_list_b, p_list_i, p_list_s, p_list_l, p_list_t, p_list_d, p_str_n, p_str_b, p_str_i, p_str_s, p_str_l, p_str_t, p_str_d, p_dict_n, p_dict_b, p_dict_i, p_dict_s, p_dict_l, p_dict_t, p_dict_d, Bool.true_or, Bool.or_true, Bool.false_or, Bool.or_false, Bool.true_and, Bool.and_true, Bool.false_and, Bool.and_false, Bool.not_true, Bool.not_false, o_len_l, o_len_t, o_abs, o_max, o_min, o_int, o_intb, o_tup_l, o_tup_t, o_list_l, o_list_t, o_all, o_any, o_divmod, o_max1, o_min1, o_sum1, o_str, o_strs, o_add, o_add_l, o_add_t, o_sub, o_mul, o_mul_l, o_mul_t, o_div, o_mod, o_pow, o_lt, o_le, o_gt, o_ge, o_eq, o_ne, o_nes, o_eqs, o_eqb, o_tn, o_tb, o_ti, o_tl, o_tt, o_ixl, o_ixt, o_sll, o_slt, if_true, if_false, decide_true, decide_false, retOf, Option.map_some, Bool.false_eq_true, e6, sz_le, Nat.reduceLeDiff, Ex.P]
termination_by f => f
decreasing_by all_goals omega
/-! ### _law_put_right -/
theorem val_fall {r : List Int} {s : Int} : ∀ (e : Ex) {w : Str}, e.val r s = .fall w → w = "nought" ∨ w = "great"
  | .num _, w, h => by cases h
  | .at_ _, w, h => by cases h
  | .was, w, h => by cases h
  | .op o a b, w, h => by
    simp only [Ex.val] at h
    cases qa : a.val r s with
    | fall w' => rw [qa] at h; cases h; exact val_fall a qa
    | ok x =>
      rw [qa] at h
      simp only at h
      cases qb : b.val r s with
      | fall w' => rw [qb] at h; cases h; exact val_fall b qb
      | ok y =>
        rw [qb] at h
        simp only [fin] at h
        split at h
        · cases h; exact .inl rfl
        · split at h
          · cases h
          · cases h; exact .inr rfl
theorem eq_d2 {r : List Int} {s : Int} (e : Ex) : cmpP .Eq (e.val r s).D2 (e.val r s).D2 = some true := by
  cases q : e.val r s with
  | ok z =>
    show eqP (.tuple [.int 0, .int z]) (.tuple [.int 0, .int z]) = some true
    simp [eqP, el_i, PyData.eqv]
  | fall w =>
    rcases val_fall e q with rfl | rfl <;> decide +kernel
theorem ne_d2 {r : List Int} {s : Int} (e : Ex) : cmpP .NotEq (e.val r s).D2 (e.val r s).D2 = some false := by
  cases q : e.val r s with
  | ok z =>
    show (if (SeqAt.shaped (.tuple [.int 0, .int z]) && SeqAt.shaped (.tuple [.int 0, .int z])) = true then some (!PyData.eqv (.tuple [.int 0, .int z]) (.tuple [.int 0, .int z])) else none) = some false
    have h : SeqAt.shaped (.tuple [.int 0, .int z]) = true := by simp [SeqAt.shaped, PyData.canLay0, PyData.canLayAll0, PyData.depth, PyData.depthAll]
    rw [h]
    simp [PyData.eqv, PyData.eqvAll]
  | fall w =>
    rcases val_fall e q with rfl | rfl <;> decide +kernel
theorem pr_run (call : CallT) (X O Lp M : PyData) (rs : List PyData) (s : Int) (n : Nat) (hn : rs.length = n) (due told : W) (hs : Bool) (t1 t2 : W) (m : Mem)
    (e1 : call 22 [.d X, .d (.tuple [.str "at", .int n]), .d O] m = .ok (.d M) m)
    (e2 : call 12 [.d M, .d (.int n), .d (.bool true)] m = .ok (.d (.bool true)) m)
    (e3 : call 20 [.d O, .d (.tuple rs), .d (.int s)] m = .ok (.d due.D2) m)
    (e4 : call 20 [.d M, .d (.tuple rs), .d (.int s)] m = .ok (.d told.D2) m)
    (hz : rs.length + 1 ≤ sizeLine)
    (c1 : ∀ z, due = .ok z → call 20 [.d X, .d (.tuple (rs ++ [.int z])), .d (.int s)] m = .ok (.d told.D2) m)
    (e5 : call 21 [.d X, .d (.tuple [.str "at", .int n])] m = .ok (.d (.bool hs)) m)
    (c2 : ∀ w, due = .fall w → hs = true → told.isFall = true)
    (c3 : ∀ w, due = .fall w → hs = false → call 20 [.d X, .d (.tuple (rs ++ [.int 0])), .d (.int s)] m = .ok (.d told.D2) m)
    (hq : cmpP .Eq told.D2 told.D2 = some true) :
    retOf (denSs call f25.body [some (.d X), some (.d O), some (.d (.tuple rs)), some (.d (.int s)), none, none, none, none] m) = .ok (.d (.bool true)) m := by
  suffices hh : denSs call f25.body [some (.d X), some (.d O), some (.d (.tuple rs)), some (.d (.int s)), none, none, none, none] m = .ok (.ret (.d (.bool true)), [some (.d X), some (.d O), some (.d (.tuple rs)), some (.d (.int s)), some (.d (.tuple [.str "at", .int n])), some (.d M), some (.d due.D2), some (.d told.D2)]) m from congrArg retOf hh
  refine seq_step (set_step (v := .d (.tuple [.str "at", .int n])) (m1 := m) (by simp only [List.map_cons, List.map_nil, List.length_cons, List.length_nil, List.replicate, List.cons_append, List.nil_append, List.getElem?_cons_zero, List.getElem?_cons_succ, List.set_cons_zero, List.set_cons_succ, Nat.reduceAdd, Nat.reduceSub, Nat.zero_add, denSs, denS, denE, denT, denTAnd, denTOr, denAnd, denOr, denEs, denO, denI, Res.bind, Res.bindN, rdd, rd, rds, dat, bol, mkL, dats, itsOf, setIx, isL, apIx, seqOf, setAll, bindT, bindTs, itsAll, p_int_n, p_int_b, p_int_i, p_int_s, p_int_l, p_int_t, p_int_d, p_bool_n, p_bool_b, p_bool_i, p_bool_s, p_bool_l, p_bool_t, p_bool_d, p_tuple_n, p_tuple_b, p_tuple_i, p_tuple_s, p_tuple_l, p_tuple_t, p_tuple_d, p_list_n, p_list_b, p_list_i, p_list_s, p_list_l, p_list_t, p_list_d, p_str_n, p_str_b, p_str_i, p_str_s, p_str_l, p_str_t, p_str_d, p_dict_n, p_dict_b, p_dict_i, p_dict_s, p_dict_l, p_dict_t, p_dict_d, Bool.true_or, Bool.or_true, Bool.false_or, Bool.or_false, Bool.true_and, Bool.and_true, Bool.false_and, Bool.and_false, Bool.not_true, Bool.not_false, o_len_l, o_len_t, o_abs, o_max, o_min, o_int, o_intb, o_tup_l, o_tup_t, o_list_l, o_list_t, o_all, o_any, o_divmod, o_max1, o_min1, o_sum1, o_str, o_strs, o_add, o_add_l, o_add_t, o_sub, o_mul, o_mul_l, o_mul_t, o_div, o_mod, o_pow, o_lt, o_le, o_gt, o_ge, o_eq, o_ne, o_nes, o_eqs, o_eqb, o_tn, o_tb, o_ti, o_tl, o_tt, o_ixl, o_ixt, o_sll, o_slt, if_true, if_false, decide_true, decide_false, retOf, Option.map_some, Bool.false_eq_true, hn, sz_le, Nat.reduceLeDiff])) ?_
  refine seq_step (set_step (v := .d M) (m1 := m) (by simp only [List.map_cons, List.map_nil, List.length_cons, List.length_nil, List.replicate, List.cons_append, List.nil_append, List.getElem?_cons_zero, List.getElem?_cons_succ, List.set_cons_zero, List.set_cons_succ, Nat.reduceAdd, Nat.reduceSub, Nat.zero_add, denSs, denS, denE, denT, denTAnd, denTOr, denAnd, denOr, denEs, denO, denI, Res.bind, Res.bindN, rdd, rd, rds, dat, bol, mkL, dats, itsOf, setIx, isL, apIx, seqOf, setAll, bindT, bindTs, itsAll, e1])) ?_
  refine seq_step (iff_n (m1 := m) (by simp only [List.map_cons, List.map_nil, List.length_cons, List.length_nil, List.replicate, List.cons_append, List.nil_append, List.getElem?_cons_zero, List.getElem?_cons_succ, List.set_cons_zero, List.set_cons_succ, Nat.reduceAdd, Nat.reduceSub, Nat.zero_add, denSs, denS, denE, denT, denTAnd, denTOr, denAnd, denOr, denEs, denO, denI, Res.bind, Res.bindN, rdd, rd, rds, dat, bol, mkL, dats, itsOf, setIx, isL, apIx, seqOf, setAll, bindT, bindTs, itsAll, p_int_n, p_int_b, p_int_i, p_int_s, p_int_l, p_int_t, p_int_d, p_bool_n, p_bool_b, p_bool_i, p_bool_s, p_bool_l, p_bool_t, p_bool_d, p_tuple_n, p_tuple_b, p_tuple_i, p_tuple_s, p_tuple_l, p_tuple_t, p_tuple_d, p_list_n, p_list_b, p_list_i, p_list_s, p_list_l, p_list_t, p_list_d, p_str_n, p_str_b, p_str_i, p_str_s, p_str_l, p_str_t, p_str_d, p_dict_n, p_dict_b, p_dict_i, p_dict_s, p_dict_l, p_dict_t, p_dict_d, Bool.true_or, Bool.or_true, Bool.false_or, Bool.or_false, Bool.true_and, Bool.and_true, Bool.false_and, Bool.and_false, Bool.not_true, Bool.not_false, o_len_l, o_len_t, o_abs, o_max, o_min, o_int, o_intb, o_tup_l, o_tup_t, o_list_l, o_list_t, o_all, o_any, o_divmod, o_max1, o_min1, o_sum1, o_str, o_strs, o_add, o_add_l, o_add_t, o_sub, o_mul, o_mul_l, o_mul_t, o_div, o_mod, o_pow, o_lt, o_le, o_gt, o_ge, o_eq, o_ne, o_nes, o_eqs, o_eqb, o_tn, o_tb, o_ti, o_tl, o_tt, o_ixl, o_ixt, o_sll, o_slt, if_true, if_false, decide_true, decide_false, retOf, Option.map_some, Bool.false_eq_true, hn, e2, truP, Bool.not_true])) ?_
  refine seq_step (set_step (v := .d due.D2) (m1 := m) (by simp only [List.map_cons, List.map_nil, List.length_cons, List.length_nil, List.replicate, List.cons_append, List.nil_append, List.getElem?_cons_zero, List.getElem?_cons_succ, List.set_cons_zero, List.set_cons_succ, Nat.reduceAdd, Nat.reduceSub, Nat.zero_add, denSs, denS, denE, denT, denTAnd, denTOr, denAnd, denOr, denEs, denO, denI, Res.bind, Res.bindN, rdd, rd, rds, dat, bol, mkL, dats, itsOf, setIx, isL, apIx, seqOf, setAll, bindT, bindTs, itsAll, e3])) ?_
  refine seq_step (set_step (v := .d told.D2) (m1 := m) (by simp only [List.map_cons, List.map_nil, List.length_cons, List.length_nil, List.replicate, List.cons_append, List.nil_append, List.getElem?_cons_zero, List.getElem?_cons_succ, List.set_cons_zero, List.set_cons_succ, Nat.reduceAdd, Nat.reduceSub, Nat.zero_add, denSs, denS, denE, denT, denTAnd, denTOr, denAnd, denOr, denEs, denO, denI, Res.bind, Res.bindN, rdd, rd, rds, dat, bol, mkL, dats, itsOf, setIx, isL, apIx, seqOf, setAll, bindT, bindTs, itsAll, e4])) ?_
  show denSs call _ [some (.d X), some (.d O), some (.d (.tuple rs)), some (.d (.int s)), some (.d (.tuple [.str "at", .int n])), some (.d M), some (.d due.D2), some (.d told.D2)] m = _
  cases due with
  | ok z =>
    have k := c1 z rfl
    have ad : binP .Add (.tuple rs) (.tuple [.int z]) = some (.tuple (rs ++ [.int z])) := o_add_t rs [.int z] hz
    generalize told.D2 = D at *
    refine seq_ret (iff_t (m1 := m) (by simp only [List.map_cons, List.map_nil, List.length_cons, List.length_nil, List.replicate, List.cons_append, List.nil_append, List.getElem?_cons_zero, List.getElem?_cons_succ, List.set_cons_zero, List.set_cons_succ, Nat.reduceAdd, Nat.reduceSub, Nat.zero_add, denSs, denS, denE, denT, denTAnd, denTOr, denAnd, denOr, denEs, denO, denI, Res.bind, Res.bindN, rdd, rd, rds, dat, bol, mkL, dats, itsOf, setIx, isL, apIx, seqOf, setAll, bindT, bindTs, itsAll, p_int_n, p_int_b, p_int_i, p_int_s, p_int_l, p_int_t, p_int_d, p_bool_n, p_bool_b, p_bool_i, p_bool_s, p_bool_l, p_bool_t, p_bool_d, p_tuple_n, p_tuple_b, p_tuple_i, p_tuple_s, p_tuple_l, p_tuple_t, p_tuple_d, p_list_n, p_list_b, p_list_i, p_list_s, p_list_l, p_list_t, p_list_d, p_str_n, p_str_b, p_str_i, p_str_s, p_str_l, p_str_t, p_str_d, p_dict_n, p_dict_b, p_dict_i, p_dict_s, p_dict_l, p_dict_t, p_dict_d, Bool.true_or, Bool.or_true, Bool.false_or, Bool.or_false, Bool.true_and, Bool.and_true, Bool.false_and, Bool.and_false, Bool.not_true, Bool.not_false, o_len_l, o_len_t, o_abs, o_max, o_min, o_int, o_intb, o_tup_l, o_tup_t, o_list_l, o_list_t, o_all, o_any, o_divmod, o_max1, o_min1, o_sum1, o_str, o_strs, o_add, o_add_l, o_add_t, o_sub, o_mul, o_mul_l, o_mul_t, o_div, o_mod, o_pow, o_lt, o_le, o_gt, o_ge, o_eq, o_ne, o_nes, o_eqs, o_eqb, o_tn, o_tb, o_ti, o_tl, o_tt, o_ixl, o_ixt, o_sll, o_slt, if_true, if_false, decide_true, decide_false, retOf, Option.map_some, Bool.false_eq_true, W.D2, a3_0, BEq.rfl, truP]) (ret_step ?_))
    simp only [List.map_cons, List.map_nil, List.length_cons, List.length_nil, List.replicate, List.cons_append, List.nil_append, List.getElem?_cons_zero, List.getElem?_cons_succ, List.set_cons_zero, List.set_cons_succ, Nat.reduceAdd, Nat.reduceSub, Nat.zero_add, denSs, denS, denE, denT, denTAnd, denTOr, denAnd, denOr, denEs, denO, denI, Res.bind, Res.bindN, rdd, rd, rds, dat, bol, mkL, dats, itsOf, setIx, isL, apIx, seqOf, setAll, bindT, bindTs, itsAll, p_int_n, p_int_b, p_int_i, p_int_s, p_int_l, p_int_t, p_int_d, p_bool_n, p_bool_b, p_bool_i, p_bool_s, p_bool_l, p_bool_t, p_bool_d, p_tuple_n, p_tuple_b, p_tuple_i, p_tuple_s, p_tuple_l, p_tuple_t, p_tuple_d, p_list_n, p_list_b, p_list_i, p_list_s, p_list_l, p_list_t, p_list_d, p_str_n, p_str_b, p_str_i, p_str_s, p_str_l, p_str_t, p_str_d, p_dict_n, p_dict_b, p_dict_i, p_dict_s, p_dict_l, p_dict_t, p_dict_d, Bool.true_or, Bool.or_true, Bool.false_or, Bool.or_false, Bool.true_and, Bool.and_true, Bool.false_and, Bool.and_false, Bool.not_true, Bool.not_false, o_len_l, o_len_t, o_abs, o_max, o_min, o_int, o_intb, o_tup_l, o_tup_t, o_list_l, o_list_t, o_all, o_any, o_divmod, o_max1, o_min1, o_sum1, o_str, o_strs, o_add, o_add_l, o_add_t, o_sub, o_mul, o_mul_l, o_mul_t, o_div, o_mod, o_pow, o_lt, o_le, o_gt, o_ge, o_eq, o_ne, o_nes, o_eqs, o_eqb, o_tn, o_tb, o_ti, o_tl, o_tt, o_ixl, o_ixt, o_sll, o_slt, if_true, if_false, decide_true, decide_false, retOf, Option.map_some, Bool.false_eq_true, W.D2, a3_1, sz_le, Nat.reduceLeDiff, ad, k, hq]
  | fall w =>
    refine seq_step (iff_n (m1 := m) (by simp only [List.map_cons, List.map_nil, List.length_cons, List.length_nil, List.replicate, List.cons_append, List.nil_append, List.getElem?_cons_zero, List.getElem?_cons_succ, List.set_cons_zero, List.set_cons_succ, Nat.reduceAdd, Nat.reduceSub, Nat.zero_add, denSs, denS, denE, denT, denTAnd, denTOr, denAnd, denOr, denEs, denO, denI, Res.bind, Res.bindN, rdd, rd, rds, dat, bol, mkL, dats, itsOf, setIx, isL, apIx, seqOf, setAll, bindT, bindTs, itsAll, p_int_n, p_int_b, p_int_i, p_int_s, p_int_l, p_int_t, p_int_d, p_bool_n, p_bool_b, p_bool_i, p_bool_s, p_bool_l, p_bool_t, p_bool_d, p_tuple_n, p_tuple_b, p_tuple_i, p_tuple_s, p_tuple_l, p_tuple_t, p_tuple_d, p_list_n, p_list_b, p_list_i, p_list_s, p_list_l, p_list_t, p_list_d, p_str_n, p_str_b, p_str_i, p_str_s, p_str_l, p_str_t, p_str_d, p_dict_n, p_dict_b, p_dict_i, p_dict_s, p_dict_l, p_dict_t, p_dict_d, Bool.true_or, Bool.or_true, Bool.false_or, Bool.or_false, Bool.true_and, Bool.and_true, Bool.false_and, Bool.and_false, Bool.not_true, Bool.not_false, o_len_l, o_len_t, o_abs, o_max, o_min, o_int, o_intb, o_tup_l, o_tup_t, o_list_l, o_list_t, o_all, o_any, o_divmod, o_max1, o_min1, o_sum1, o_str, o_strs, o_add, o_add_l, o_add_t, o_sub, o_mul, o_mul_l, o_mul_t, o_div, o_mod, o_pow, o_lt, o_le, o_gt, o_ge, o_eq, o_ne, o_nes, o_eqs, o_eqb, o_tn, o_tb, o_ti, o_tl, o_tt, o_ixl, o_ixt, o_sll, o_slt, if_true, if_false, decide_true, decide_false, retOf, Option.map_some, Bool.false_eq_true, W.D2, a3_0, show ((1 : Int) == 0) = false from by decide, truP])) ?_
    cases hs with
    | true =>
      have k := c2 w rfl rfl
      refine seq_ret (iff_t (m1 := m) (by simp only [List.map_cons, List.map_nil, List.length_cons, List.length_nil, List.replicate, List.cons_append, List.nil_append, List.getElem?_cons_zero, List.getElem?_cons_succ, List.set_cons_zero, List.set_cons_succ, Nat.reduceAdd, Nat.reduceSub, Nat.zero_add, denSs, denS, denE, denT, denTAnd, denTOr, denAnd, denOr, denEs, denO, denI, Res.bind, Res.bindN, rdd, rd, rds, dat, bol, mkL, dats, itsOf, setIx, isL, apIx, seqOf, setAll, bindT, bindTs, itsAll, e5, truP]) (ret_step ?_))
      cases told with
      | ok z => cases k
      | fall w2 => simp only [List.map_cons, List.map_nil, List.length_cons, List.length_nil, List.replicate, List.cons_append, List.nil_append, List.getElem?_cons_zero, List.getElem?_cons_succ, List.set_cons_zero, List.set_cons_succ, Nat.reduceAdd, Nat.reduceSub, Nat.zero_add, denSs, denS, denE, denT, denTAnd, denTOr, denAnd, denOr, denEs, denO, denI, Res.bind, Res.bindN, rdd, rd, rds, dat, bol, mkL, dats, itsOf, setIx, isL, apIx, seqOf, setAll, bindT, bindTs, itsAll, p_int_n, p_int_b, p_int_i, p_int_s, p_int_l, p_int_t, p_int_d, p_bool_n, p_bool_b, p_bool_i, p_bool_s, p_bool_l, p_bool_t, p_bool_d, p_tuple_n, p_tuple_b, p_tuple_i, p_tuple_s, p_tuple_l, p_tuple_t, p_tuple_d, p_list_n, p_list_b, p_list_i, p_list_s, p_list_l, p_list_t, p_list_d, p_str_n, p_str_b, p_str_i, p_str_s, p_str_l, p_str_t, p_str_d, p_dict_n, p_dict_b, p_dict_i, p_dict_s, p_dict_l, p_dict_t, p_dict_d, Bool.true_or, Bool.or_true, Bool.false_or, Bool.or_false, Bool.true_and, Bool.and_true, Bool.false_and, Bool.and_false, Bool.not_true, Bool.not_false, o_len_l, o_len_t, o_abs, o_max, o_min, o_int, o_intb, o_tup_l, o_tup_t, o_list_l, o_list_t, o_all, o_any, o_divmod, o_max1, o_min1, o_sum1, o_str, o_strs, o_add, o_add_l, o_add_t, o_sub, o_mul, o_mul_l, o_mul_t, o_div, o_mod, o_pow, o_lt, o_le, o_gt, o_ge, o_eq, o_ne, o_nes, o_eqs, o_eqb, o_tn, o_tb, o_ti, o_tl, o_tt, o_ixl, o_ixt, o_sll, o_slt, if_true, if_false, decide_true, decide_false, retOf, Option.map_some, Bool.false_eq_true, W.D2, a3_0, BEq.rfl]
    | false =>
      have k := c3 w rfl rfl
      have ad : binP .Add (.tuple rs) (.tuple [.int 0]) = some (.tuple (rs ++ [.int 0])) := o_add_t rs [.int 0] hz
      generalize told.D2 = D at *
      refine seq_step (iff_n (m1 := m) (by simp only [List.map_cons, List.map_nil, List.length_cons, List.length_nil, List.replicate, List.cons_append, List.nil_append, List.getElem?_cons_zero, List.getElem?_cons_succ, List.set_cons_zero, List.set_cons_succ, Nat.reduceAdd, Nat.reduceSub, Nat.zero_add, denSs, denS, denE, denT, denTAnd, denTOr, denAnd, denOr, denEs, denO, denI, Res.bind, Res.bindN, rdd, rd, rds, dat, bol, mkL, dats, itsOf, setIx, isL, apIx, seqOf, setAll, bindT, bindTs, itsAll, e5, truP])) (ret_step ?_)
      simp only [List.map_cons, List.map_nil, List.length_cons, List.length_nil, List.replicate, List.cons_append, List.nil_append, List.getElem?_cons_zero, List.getElem?_cons_succ, List.set_cons_zero, List.set_cons_succ, Nat.reduceAdd, Nat.reduceSub, Nat.zero_add, denSs, denS, denE, denT, denTAnd, denTOr, denAnd, denOr, denEs, denO, denI, Res.bind, Res.bindN, rdd, rd, rds, dat, bol, mkL, dats, itsOf, setIx, isL, apIx, seqOf, setAll, bindT, bindTs, itsAll, p_int_n, p_int_b, p_int_i, p_int_s, p_int_l, p_int_t, p_int_d, p_bool_n, p_bool_b, p_bool_i, p_bool_s, p_bool_l, p_bool_t, p_bool_d, p_tuple_n, p_tuple_b, p_tuple_i, p_tuple_s, p_tuple_l, p_tuple_t, p_tuple_d, p_list_n, p_list_b, p_list_i, p_list_s, p_list_l, p_list_t, p_list_d, p_str_n, p_str_b, p_str_i, p_str_s, p_str_l, p_str_t, p_str_d, p_dict_n, p_dict_b, p_dict_i, p_dict_s, p_dict_l, p_dict_t, p_dict_d, Bool.true_or, Bool.or_true, Bool.false_or, Bool.or_false, Bool.true_and, Bool.and_true, Bool.false_and, Bool.and_false, Bool.not_true, Bool.not_false, o_len_l, o_len_t, o_abs, o_max, o_min, o_int, o_intb, o_tup_l, o_tup_t, o_list_l, o_list_t, o_all, o_any, o_divmod, o_max1, o_min1, o_sum1, o_str, o_strs, o_add, o_add_l, o_add_t, o_sub, o_mul, o_mul_l, o_mul_t, o_div, o_mod, o_pow, o_lt, o_le, o_gt, o_ge, o_eq, o_ne, o_nes, o_eqs, o_eqb, o_tn, o_tb, o_ti, o_tl, o_tt, o_ixl, o_ixt, o_sll, o_slt, if_true, if_false, decide_true, decide_false, retOf, Option.map_some, Bool.false_eq_true, sz_le, Nat.reduceLeDiff, ad, k, hq]
theorem r_pr (n : Nat) (r : List Int) (s : Int) (hr : ∀ i ∈ r, Wd i) (hs : Wd s) (hl : r.length ≤ 9) (e o : Ex) (m : Mem) (hm : LD m) (he : e.Ok (r.length + 1)) (ho : o.Ok r.length) (de : e.dep ≤ 4) (do_ : o.dep ≤ 4) (dp : (e.put r.length o).dep ≤ 4) :
    callN T (n + 12) 25 [.d e.P, .d o.P, .d (.tuple (r.map .int)), .d (.int s)] m = .ok (.d (.bool true)) m := by
  have e1 := r_put (n + 6) (.at_ r.length) o e 4 m hm de (by omega)
  rw [putL_at] at e1
  have e2 := r_isexpr (n + 2) r.length hl (e.put r.length o) m hm dp (put_Ok ho e he)
  have e3 := r_met n r s hr hs o 4 m hm do_ ho
  have e4 := r_met n r s hr hs (e.put r.length o) 4 m hm dp (put_Ok ho e he)
  have e5 := r_has (n + 6) r.length e 4 m hm de (by omega)
  have wd1 : ∀ z, Wd z → ∀ i ∈ r ++ [z], Wd i := fun z hz i hi => by
    rcases List.mem_append.mp hi with h | h
    · exact hr i h
    · rw [List.mem_singleton] at h; subst h; exact hz
  have e6 : ∀ z, Wd z → callN T (n + 4 + 7) 20 [.d e.P, .d (.tuple (r.map .int ++ [.int z])), .d (.int s)] m = .ok (.d (e.val (r ++ [z]) s).D2) m := fun z hz => by
    have h := r_met n (r ++ [z]) s (wd1 z hz) hs e 4 m hm de (by rw [List.length_append]; exact he)
    rw [List.map_append] at h
    exact h
  rw [show n + 6 + 4 + 1 = n + 11 from rfl] at e1 e5
  rw [show n + 2 + 9 = n + 11 from rfl] at e2
  rw [show n + 4 + 7 = n + 11 from rfl] at e3 e4 e6
  refine call_data (f := f25) hm rfl rfl rfl ?_
  refine pr_run _ e.P o.P (Lf.at_ r.length).P (e.put r.length o).P (r.map .int) s r.length (by rw [List.length_map]) (o.val r s) ((e.put r.length o).val r s) (e.has r.length) (o.val r s) (o.val r s) m e1 e2 e3 e4 (by rw [List.length_map]; unfold sizeLine; omega) (fun z hz => ?_) e5 (fun w hw hh => ?_) (fun w hw hh => ?_) (eq_d2 _)
  · rw [put_ok hz e he]
    exact e6 z (val_wd hr hs o ho hz)
  · exact put_fall (by rw [hw]; rfl) r.length e hh
  · rw [put_no (x := 0) e he hh]
    exact e6 0 ⟨by omega, by omega⟩
/-! ### an order by pops -/
theorem erase_perm : ∀ {l : List Nat} {j : Nat} (h : j < l.length), (l[j] :: l.eraseIdx j).Perm l
  | a :: l, 0, _ => List.Perm.refl _
  | a :: l, j + 1, h => by
    have h : j < l.length := Nat.lt_of_succ_lt_succ h
    have ih := erase_perm h
    rw [List.eraseIdx_cons_succ, List.getElem_cons_succ]
    exact (List.Perm.swap a l[j] _).trans (ih.cons a)
theorem pop_perm {ord left : List Nat} {n j : Nat} (h : (ord ++ left).Perm (List.range n)) (hj : j < left.length) : ((ord ++ [left[j]]) ++ left.eraseIdx j).Perm (List.range n) := by
  refine List.Perm.trans ?_ h
  rw [List.append_assoc]
  exact List.Perm.append_left ord (erase_perm hj)
theorem ord_lt {ord : List Nat} {n : Nat} (h : ord.Perm (List.range n)) : ∀ k ∈ ord, k < n := fun k hk => List.mem_range.mp (h.mem_iff.mp hk)
theorem ord_nodup {ord : List Nat} {n : Nat} (h : ord.Perm (List.range n)) : ord.Nodup := h.nodup_iff.mpr List.nodup_range
theorem pop_step {call : CallT} {o i : CE} {env : Sl} {m m1 : Mem} {l j : Nat} {xs0 xs : List PyData} (ho : denE call o env m = .ok (.loc l) m) (h0 : m[l]? = some (.lst xs0)) (hi : denE call i env m = .ok (.d (.int (j : Int))) m1) (h : m1[l]? = some (.lst xs)) (hj : j < xs.length) (hs : j < 1000) :
    denE call (.popA o i) env m = .ok (.d xs[j]) (m1.set l (.lst (xs.eraseIdx j))) := by
  have hx : L2.ixN xs.length (j : Int) = some j := by
    unfold L2.ixN
    rw [if_pos (by omega), if_pos (by omega), Int.toNat_natCast]
  have hsm : smallI (j : Int) = true := by
    unfold smallI
    rw [Bool.and_eq_true, decide_eq_true_eq, decide_eq_true_eq]
    omega
  rw [denE, ho]
  simp only [Res.bind, isL, h0, hi, popR, h, hx, List.getElem?_eq_getElem hj, hsm, if_true]
/-! ### the record turned about -/
def fill : List Nat → List Int → List Int → List Int
  | k :: ks, w :: ws, t => fill ks ws (t.set k w)
  | _, _, t => t
theorem fill_len : ∀ (ks : List Nat) (ws t : List Int), (fill ks ws t).length = t.length
  | [], _, _ => by simp [fill]
  | _ :: _, [], _ => by simp [fill]
  | k :: ks, w :: ws, t => by rw [fill, fill_len ks ws, List.length_set]
theorem fill_not {q : Nat} : ∀ (ks : List Nat) (ws t : List Int), q ∉ ks → (fill ks ws t)[q]? = t[q]?
  | [], _, _, _ => by simp [fill]
  | _ :: _, [], _, _ => by simp [fill]
  | k :: ks, w :: ws, t, h => by
    rw [List.mem_cons, not_or] at h
    rw [fill, fill_not ks ws (t.set k w) h.2, List.getElem?_set_ne (fun e => h.1 e.symm)]
theorem fill_at : ∀ (ks : List Nat) (ws t : List Int), ks.Nodup → ks.length = ws.length → (∀ k ∈ ks, k < t.length) → ∀ i, i < ks.length → (fill ks ws t)[ks.getD i 0]? = ws[i]?
  | [], _, _, _, _, _, i, hi => absurd hi (Nat.not_lt_zero _)
  | k :: ks, [], _, _, hl, _, _, _ => by cases hl
  | k :: ks, w :: ws, t, hn, hl, ht, i, hi => by
    rw [List.nodup_cons] at hn
    rw [fill]
    cases i with
    | zero =>
      show (fill ks ws (t.set k w))[k]? = some w
      rw [fill_not ks ws _ hn.1, List.getElem?_set_self (ht k (List.mem_cons_self ..))]
    | succ i =>
      show (fill ks ws (t.set k w))[ks.getD i 0]? = ws[i]?
      exact fill_at ks ws (t.set k w) hn.2 (by simpa using hl) (fun q hq => by rw [List.length_set]; exact ht q (List.mem_cons_of_mem _ hq)) i (by simpa using hi)
/-- a comprehension whose list so far belongs to what holds -/
theorem lc_acc {v L : Nat} {c : Sl → Mem → Res Bool} {e : Sl → Mem → Res Vl} {env : Sl} (J : List PyData → Mem → Prop) (hc : ∀ env m, c env m = .ok true m) (hL : ∀ a m, J a m → m.length = L) (N : Nat) (hN : N ≤ 1000) : ∀ (items acc : List PyData) (m : Mem), acc.length + items.length ≤ N → J acc m →
    (∀ x a m, x ∈ items → a.length < N → J a m → ∃ y m', e (env.set v (some (.d x))) (m ++ [.lst a]) = .ok (.d y) (m' ++ [.lst a]) ∧ J (a ++ [y]) m') →
    ∃ acc' m', acc'.length = acc.length + items.length ∧ J acc' m' ∧ lcLoop [] (.nm v) L c e items env (m ++ [.lst acc]) = .ok () (m' ++ [.lst acc'])
  | [], acc, m, _, hj, _ => ⟨acc, m, by simp, hj, by simp [lcLoop, Ev.same]⟩
  | x :: xs, acc, m, hl, hj, he => by
    simp only [List.length_cons] at hl
    obtain ⟨y, m1, e1, j1⟩ := he x acc m (List.mem_cons_self ..) (by omega) hj
    obtain ⟨acc', m2, h1, h2, h3⟩ := lc_acc J hc hL N hN xs (acc ++ [y]) m1 (by simp only [List.length_append, List.length_cons, List.length_nil]; omega) j1 (fun x a m hx => he x a m (List.mem_cons_of_mem _ hx))
    refine ⟨acc', m2, by rw [h1, List.length_append, List.length_cons, List.length_cons, List.length_nil]; omega, h2, ?_⟩
    have hm1 := hL _ _ j1
    unfold lcLoop
    have g : (m1 ++ [Ob.lst acc])[L]? = some (.lst acc) := by rw [← hm1]; exact get_last _
    have g2 : ∀ o, (m1 ++ [Ob.lst acc]).set L o = m1 ++ [o] := fun o => by rw [← hm1]; exact set_last _ _
    simp only [Ev.same, if_true, bindT, Res.bind, hc, e1, g, lt_sz (show acc.length < 1000 by omega), g2, h3]
/-! ### the order by pops, the record turned about: the walk -/
theorem rng_ord (N : Nat) : rngL 0 (N : Int) = ordP (List.range N) := by
  rw [rngL_n]
  unfold ordP
  simp only [Int.zero_add]
theorem ordP_len (ord : List Nat) : (ordP ord).length = ord.length := by unfold ordP; rw [List.length_map]
theorem ordP_app (a b : List Nat) : ordP (a ++ b) = ordP a ++ ordP b := by unfold ordP; rw [List.map_append]
theorem ordP_at {ord : List Nat} {j : Nat} (h : j < (ordP ord).length) : (ordP ord)[j] = .int ((ord[j]'(by rwa [ordP_len] at h) : Nat) : Int) := by
  exact List.getElem_map (fun (k : Nat) => PyData.int (k : Int))
theorem ordP_erase (ord : List Nat) (j : Nat) : (ordP ord).eraseIdx j = ordP (ord.eraseIdx j) := by
  unfold ordP
  rw [List.eraseIdx_eq_take_drop_succ, List.eraseIdx_eq_take_drop_succ, List.map_append, List.map_take, List.map_drop]
def popE : CE := .popA (.var 5) (.call 16 "_law_draw" (.cons (.var 0) (.cons (.bi .len (.cons (.var 5) .nil)) .nil)))
theorem len_loc {call : CallT} {i l : Nat} {env : Sl} {M : Mem} {xs : List PyData} (hv : env[i]? = some (some (.loc l))) (h : M[l]? = some (.lst xs)) : denE call (.bi .len (.cons (.var i) .nil)) env M = .ok (.d (.int (xs.length : Nat))) M := by
  have hv1 : denE call (.var i) env M = .ok (.loc l) M := by rw [denE, hv]
  rw [denE, denEs, hv1]
  simp only [Res.bind, denEs, rds, rd, h, Option.map_some, o_len_l, dat]
theorem mid_get {m : Mem} {o p : Ob} : (m ++ [o] ++ [p])[m.length]? = some o := by
  rw [List.getElem?_append_left (by simp)]
  exact get_last o
theorem mid_set {m : Mem} {o o' p : Ob} : (m ++ [o] ++ [p]).set m.length o' = m ++ [o'] ++ [p] := by
  rw [List.set_append_left _ _ (by simp), set_last]
theorem r_pops (n : Nat) (mm : Mem) (l k N : Nat) (hN : N ≤ 9) (hm : LD mm) (hs : Sk mm l k) (hk : k ≤ 80000) (rs : List PyData) (hr : rs.length = N) (env : Sl) (h0 : env[0]? = some (some (.loc l))) (h2 : env[2]? = some (some (.d (.tuple rs)))) (h5 : env[5]? = some (some (.loc mm.length))) :
    ∃ (ord : List Nat) (m' : Mem), denE (callN T (n + 1)) (.lc false (.nm 12) ["turn"] (.rng1 (.bi .len (.cons (.var 2) .nil))) .nil popE) env (mm ++ [.lst (ordP (List.range N))]) = .ok (.d (.list (ordP ord))) (m' ++ [.lst []]) ∧ ord.Perm (List.range N) ∧ Dn mm l (k + N) m' := by
  have hI : denI (callN T (n + 1)) (.rng1 (.bi .len (.cons (.var 2) .nil))) env (mm ++ [.lst (ordP (List.range N))]) = .ok ⟨ordP (List.range N), []⟩ (mm ++ [.lst (ordP (List.range N))]) := by
    rw [← rng_ord]
    refine rng1_run ?_ (rngOk_n (by omega))
    simp only [denSs, denS, denE, denT, denTAnd, denTOr, denAnd, denOr, denEs, denO, denI, Res.bind, Res.bindN, rdd, rd, rds, dat, bol, mkL, dats, itsOf, setIx, isL, apIx, seqOf, setAll, bindT, bindTs, itsAll, h2, o_len_t, hr, Option.map_some]
  obtain ⟨acc', m', hl, ⟨m0, ord, left, rfl, hd, rfl, hp⟩, hloop⟩ := lc_acc (v := 12) (L := mm.length + 1) (c := denTAnd (callN T (n + 1)) .nil) (e := denE (callN T (n + 1)) popE) (env := env)
    (fun acc m => ∃ (m0 : Mem) (ord left : List Nat), m = m0 ++ [.lst (ordP left)] ∧ Dn mm l (k + acc.length) m0 ∧ acc = ordP ord ∧ (ord ++ left).Perm (List.range N)) (fun _ _ => by simp only [denTAnd]) (by
      rintro a m ⟨m0, ord, left, rfl, hd, -, -⟩
      simp [hd.len]) N (by omega) (ordP (List.range N)) [] (mm ++ [.lst (ordP (List.range N))]) (by rw [ordP_len]; simp) ⟨mm, [], List.range N, rfl, dn_refl hm hs, rfl, List.Perm.refl _⟩ (by
      rintro x a m hx ha ⟨m0, ord, left, rfl, hd, rfl, hp⟩
      have hlen := hp.length_eq
      rw [List.length_append, List.length_range] at hlen
      rw [ordP_len] at ha hd
      have hll : 0 < left.length := by omega
      have e0 : (env.set 12 (some (.d x)))[0]? = some (some (.loc l)) := by rw [List.getElem?_set_ne (by omega)]; exact h0
      have e5 : (env.set 12 (some (.d x)))[5]? = some (some (.loc m0.length)) := by rw [List.getElem?_set_ne (by omega), hd.len]; exact h5
      obtain ⟨j, M1, ed, j0, j1, sa⟩ := draw_run hD n (m0 ++ [.lst (ordP left)] ++ [.lst (ordP ord)]) l (k + ord.length) left.length ((hd.1.appL _).appL _) ((hd.2.2.app _).app _) (by omega) (by omega) (by omega)
      obtain ⟨M2, rfl, sb⟩ := sa.in (hd.1.appL _) (hd.2.2.app _).lt
      obtain ⟨M3, rfl, sd⟩ := sb.in hd.1 hd.2.2.lt
      obtain ⟨i, rfl⟩ : ∃ i : Nat, j = (i : Int) := ⟨j.toNat, by omega⟩
      have hi : i < left.length := by omega
      have hi' : i < (ordP left).length := by rw [ordP_len]; exact hi
      refine ⟨.int ((left[i] : Nat) : Int), M3 ++ [.lst (ordP (left.eraseIdx i))], ?_, M3, ord ++ [left[i]], left.eraseIdx i, rfl, ?_, ?_, pop_perm hp hi⟩
      · have ho : denE (callN T (n + 1)) (.var 5) (env.set 12 (some (.d x))) (m0 ++ [.lst (ordP left)] ++ [.lst (ordP ord)]) = .ok (.loc m0.length) (m0 ++ [.lst (ordP left)] ++ [.lst (ordP ord)]) := by rw [denE, e5]
        have hc : denE (callN T (n + 1)) (.call 16 "_law_draw" (.cons (.var 0) (.cons (.bi .len (.cons (.var 5) .nil)) .nil))) (env.set 12 (some (.d x))) (m0 ++ [.lst (ordP left)] ++ [.lst (ordP ord)]) = .ok (.d (.int (i : Int))) (M3 ++ [.lst (ordP left)] ++ [.lst (ordP ord)]) := by
          have hv : denE (callN T (n + 1)) (.var 0) (env.set 12 (some (.d x))) (m0 ++ [.lst (ordP left)] ++ [.lst (ordP ord)]) = .ok (.loc l) (m0 ++ [.lst (ordP left)] ++ [.lst (ordP ord)]) := by rw [denE, e0]
          have hl2 := len_loc (call := callN T (n + 1)) (M := m0 ++ [.lst (ordP left)] ++ [.lst (ordP ord)]) e5 mid_get
          rw [ordP_len] at hl2
          rw [denE, denEs, hv]
          simp only [Res.bind, denEs, hl2, ed]
        have lM : M3.length = m0.length := sd.len
        have hg : (M3 ++ [Ob.lst (ordP left)] ++ [.lst (ordP ord)])[m0.length]? = some (.lst (ordP left)) := by rw [← lM]; exact mid_get
        have := pop_step ho mid_get hc hg hi' (by omega)
        rw [ordP_at, ordP_erase, ← lM, mid_set] at this
        exact this
      · refine (hd.trans sd).mono ?_
        rw [List.length_append, ordP_len, List.length_cons, List.length_nil]
        omega
      · rw [ordP_app]; rfl)
  have hlen := hp.length_eq
  rw [List.length_append, List.length_range] at hlen
  simp only [ordP_len, List.length_nil, List.length_range] at hl
  have hlf : left = [] := List.length_eq_zero_iff.mp (by omega)
  subst hlf
  rw [List.append_nil] at hp
  refine ⟨ord, m0, lc_step (src := []) hI ?_ ?_ (hd.1.appL _), hp, hd.mono (by rw [ordP_len]; omega)⟩
  · rw [List.length_append, List.length_cons, List.length_nil]
    exact hloop
  · rw [List.length_append, List.length_append, hd.len, List.length_cons, List.length_nil]; rfl
/-! ### enumerate's loop -/
def enF : Nat → List Int → List PyData
  | _, [] => []
  | i, w :: ws => .tuple [.int (i : Int), .int w] :: enF (i + 1) ws
theorem enF_eq : ∀ (ws : List Int) (i : Nat), enF i ws = (List.range ws.length).map fun (k : Nat) => PyData.tuple [.int ((i + k : Nat) : Int), (ws.map PyData.int).getD k .none]
  | [], i => rfl
  | w :: ws, i => by
    rw [enF, enF_eq ws (i + 1), List.length_cons, List.range_succ_eq_map, List.map_cons, List.map_map]
    refine congr (congrArg List.cons rfl) (List.map_congr_left fun k _ => ?_)
    show PyData.tuple [.int ((i + 1 + k : Nat) : Int), (ws.map PyData.int).getD k .none] = PyData.tuple [.int ((i + (k + 1) : Nat) : Int), (ws.map PyData.int).getD k .none]
    rw [show i + 1 + k = i + (k + 1) by omega]
theorem enumD_eq (ws : List Int) : enumD (ws.map .int) = enF 0 ws := by
  rw [enF_eq]
  unfold enumD
  rw [List.length_map]
  simp only [Nat.zero_add]
def fillB : CSs := .cons (.setix (.var 7) (.ix (.var 6) (.var 10)) (.var 11)) .nil
def fillT : Tg := .tup (.cons (.nm 10) (.cons (.nm 11) .nil))
theorem fill_step {call : CallT} {env : Sl} {m : Mem} {L i k : Nat} {w : Int} {t : List Int} {ds : List PyData} (h7 : env[7]? = some (some (.loc L))) (h6 : env[6]? = some (some (.d (.list ds)))) (h10 : env[10]? = some (some (.d (.int (i : Int))))) (h11 : env[11]? = some (some (.d (.int w))))
    (hk : L2.atI ds (i : Int) = some (.int (k : Int))) (hm : m[L]? = some (.lst (t.map .int))) (hkt : k < t.length) : denSs call fillB env m = .ok (.nx, env) (m.set L (.lst ((t.set k w).map .int))) := by
  have hx : L2.ixN (t.map PyData.int).length (k : Int) = some k := by
    unfold L2.ixN
    rw [List.length_map, if_pos (by omega), if_pos (by omega), Int.toNat_natCast]
  refine one_step ?_
  have k1 : denE call (.var 11) env m = .ok (.d (.int w)) m := by rw [denE, h11]
  have k2 : denE call (.var 7) env m = .ok (.loc L) m := by rw [denE, h7]
  have k3 : denE call (.ix (.var 6) (.var 10)) env m = .ok (.d (.int (k : Int))) m := by
    have a1 : denE call (.var 6) env m = .ok (.d (.list ds)) m := by rw [denE, h6]
    have a2 : denE call (.var 10) env m = .ok (.d (.int (i : Int))) m := by rw [denE, h10]
    rw [denE, a1]
    simp only [Res.bind, a2, rdd, rd, o_ixl, hk, dat]
  rw [denS, k1]
  simp only [Res.bind, k2, k3, setIx, hm, hx, List.map_set]
theorem fill_loop {call : CallT} {L : Nat} (a0 a1 a2 a3 a4 a5 a8 a9 a12 : Option Vl) (ord : List Nat) : ∀ (ws : List Int) (i : Nat) (t : List Int) (m : Mem) (a10 a11 : Option Vl), i + ws.length = ord.length → (∀ k ∈ ord, k < t.length) → m[L]? = some (.lst (t.map .int)) →
    ∃ b10 b11, forLoop [] fillT (denSs call fillB) (enF i ws) [a0, a1, a2, a3, a4, a5, some (.d (.list (ordP ord))), some (.loc L), a8, a9, a10, a11, a12] m = .ok (.nx, [a0, a1, a2, a3, a4, a5, some (.d (.list (ordP ord))), some (.loc L), a8, a9, b10, b11, a12]) (m.set L (.lst ((fill (ord.drop i) ws t).map .int)))
  | [], i, t, m, a10, a11, hl, ho, hm => ⟨a10, a11, by
    have : fill (ord.drop i) [] t = t := by cases ord.drop i <;> rfl
    rw [this, set_same hm, enF]
    exact for_nil⟩
  | w :: ws, i, t, m, a10, a11, hl, ho, hm => by
    simp only [List.length_cons] at hl
    have hi : i < ord.length := by omega
    have hd : ord.drop i = ord.getD i 0 :: ord.drop (i + 1) := by
      rw [List.drop_eq_getElem_cons hi, List.getD_eq_getElem?_getD, List.getElem?_eq_getElem hi, Option.getD_some]
    have hkt : ord.getD i 0 < t.length := by
      rw [List.getD_eq_getElem?_getD, List.getElem?_eq_getElem hi, Option.getD_some]
      exact ho _ (List.getElem_mem hi)
    obtain ⟨b10, b11, e⟩ := fill_loop (call := call) a0 a1 a2 a3 a4 a5 a8 a9 a12 ord ws (i + 1) (t.set (ord.getD i 0) w) (m.set L (.lst ((t.set (ord.getD i 0) w).map .int))) (some (.d (.int (i : Int)))) (some (.d (.int w))) (by omega) (fun k hk => by rw [List.length_set]; exact ho k hk) (set_at hm)
    refine ⟨b10, b11, ?_⟩
    rw [List.set_set] at e
    rw [hd, fill, enF]
    refine for_consT (env0 := [a0, a1, a2, a3, a4, a5, some (.d (.list (ordP ord))), some (.loc L), a8, a9, some (.d (.int (i : Int))), some (.d (.int w)), a12]) rfl ?_ e
    exact fill_step rfl rfl rfl rfl (atI_ord hi) hm hkt
/-! ### _law_others_right -/
theorem cmp_step {call : CallT} {o : CmpOp} {a b : CE} {env : Sl} {m m1 m2 : Mem} {x y : PyData} {z : Bool} (ha : denE call a env m = .ok (.d x) m1) (hb : denE call b env m1 = .ok (.d y) m2) (h : cmpP o x y = some z) : denE call (.cmp o a b) env m = .ok (.d (.bool z)) m2 := by
  rw [denE, ha]
  simp only [Res.bind, hb, rdd, rd, h, bol]
theorem es_nil {call : CallT} {env : Sl} {m : Mem} : denEs call .nil env m = .ok [] m := by simp only [denEs]
theorem es_cons {call : CallT} {a : CE} {r : CEs} {env : Sl} {m m1 m2 : Mem} {v : Vl} {vs : List Vl} (h : denE call a env m = .ok v m1) (h2 : denEs call r env m1 = .ok vs m2) : denEs call (.cons a r) env m = .ok (v :: vs) m2 := by
  rw [denEs, h]
  simp only [Res.bind, h2]
theorem call_step {call : CallT} {g : Nat} {x : Str} {es : CEs} {env : Sl} {m m1 : Mem} {vs : List Vl} {R : Res Vl} (h : denEs call es env m = .ok vs m1) (h2 : call g vs m1 = R) : denE call (.call g x es) env m = R := by
  rw [denE, h]
  exact h2
theorem var_step {call : CallT} {i : Nat} {env : Sl} {m : Mem} {v : Vl} (h : env[i]? = some (some v)) : denE call (.var i) env m = .ok v m := by rw [denE, h]
theorem cst_step {call : CallT} {d : PyData} {env : Sl} {m : Mem} : denE call (.cst d) env m = .ok (.d d) m := by rw [denE]
theorem tv_step {call : CallT} {e : CE} {env : Sl} {m m1 : Mem} {v : Vl} {x : PyData} {b : Bool} (h : denE call e env m = .ok v m1) (hr : rd m1 v = some x) (ht : truP x = some b) : denT call (.v e) env m = .ok b m1 := by
  rw [denT, h]
  simp only [Res.bind, rdd, hr, ht]
theorem tup1_loc {call : CallT} {e : CE} {env : Sl} {m m1 : Mem} {l : Nat} {xs : List PyData} (h : denE call e env m = .ok (.loc l) m1) (hl : m1[l]? = some (.lst xs)) : denE call (.bi .tuple1 (.cons e .nil)) env m = .ok (.d (.tuple xs)) m1 := by
  rw [denE, denEs, h]
  simp only [Res.bind, denEs, rds, rd, hl, Option.map_some, o_tup_l, dat]
theorem tup_was {call : CallT} {env : Sl} {m : Mem} : denE call (.tup (.cons (.cst (.str "was")) .nil)) env m = .ok (.d (.tuple [.str "was"])) m := by
  simp only [List.map_cons, List.map_nil, List.length_cons, List.length_nil, List.replicate, List.cons_append, List.nil_append, List.getElem?_cons_zero, List.getElem?_cons_succ, List.set_cons_zero, List.set_cons_succ, Nat.reduceAdd, Nat.reduceSub, Nat.zero_add, denSs, denS, denE, denT, denTAnd, denTOr, denAnd, denOr, denEs, denO, denI, Res.bind, Res.bindN, rdd, rd, rds, dat, bol, mkL, dats, itsOf, setIx, isL, apIx, seqOf, setAll, bindT, bindTs, itsAll, Option.map_some, sz_le, Nat.reduceLeDiff, if_true]
theorem repO_step {call : CallT} {a b : CE} {env : Sl} {m m1 m2 : Mem} {xs : List PyData} {k : Int} (ha : denE call a env m = .ok (.d (.list xs)) m1) (hb : denE call b env m1 = .ok (.d (.int k)) m2) (h : repOk xs.length k = true) : denE call (.repO a b) env m = .ok (.loc m2.length) (m2 ++ [.lst (repL xs k)]) := by
  rw [denE, ha]
  simp only [Res.bind, hb, rdd, rd, h, if_true, mkL]
theorem lst_one {call : CallT} {env : Sl} {m : Mem} : denE call (.lst false (.cons (.cst (.int 0)) .nil)) env m = .ok (.d (.list [.int 0])) m := by
  simp only [List.map_cons, List.map_nil, List.length_cons, List.length_nil, List.replicate, List.cons_append, List.nil_append, List.getElem?_cons_zero, List.getElem?_cons_succ, List.set_cons_zero, List.set_cons_succ, Nat.reduceAdd, Nat.reduceSub, Nat.zero_add, denSs, denS, denE, denT, denTAnd, denTOr, denAnd, denOr, denEs, denO, denI, Res.bind, Res.bindN, rdd, rd, rds, dat, bol, mkL, dats, itsOf, setIx, isL, apIx, seqOf, setAll, bindT, bindTs, itsAll, Option.map_some, sz_le, Nat.reduceLeDiff, if_true]
theorem len_tup {call : CallT} {i : Nat} {env : Sl} {M : Mem} {xs : List PyData} (hv : env[i]? = some (some (.d (.tuple xs)))) : denE call (.bi .len (.cons (.var i) .nil)) env M = .ok (.d (.int (xs.length : Nat))) M := by
  have hv1 : denE call (.var i) env M = .ok (.d (.tuple xs)) M := by rw [denE, hv]
  rw [denE, denEs, hv1]
  simp only [Res.bind, denEs, rds, rd, Option.map_some, o_len_t, dat]
theorem repL_one (N : Nat) : repL [.int 0] (N : Int) = (List.replicate N (0 : Int)).map .int := by
  unfold repL
  rw [Int.toNat_natCast]
  induction N with
  | zero => rfl
  | succ n ih => rw [List.replicate_succ, List.flatten_cons, ih]; rfl
theorem rep_one {N : Nat} (h : N ≤ 9) : repOk [PyData.int 0].length (N : Int) = true := by
  unfold repOk sizeLine
  simp only [List.length_cons, List.length_nil, Int.toNat_natCast, Bool.and_eq_true, decide_eq_true_eq]
  omega
def or3 : CSs := match f26.body with
  | .cons _ (.cons _ (.cons _ r)) => r
  | _ => .nil
def or5 : CSs := match or3 with
  | .cons _ (.cons _ r) => r
  | _ => .nil
def or7 : CSs := match or5 with
  | .cons _ (.cons _ r) => r
  | _ => .nil
theorem or7_run (call : CallT) (X4 D : PyData) (r : List Int) (s : Int) (us : List PyData) (m : Mem) (a0 a5 a6 a7 a10 a11 a12 : Option Vl) (X : PyData) (hm : LD m)
    (c6 : ∀ (M : Mem), LD M → call 24 [.d X, .loc M.length] (M ++ [.lst (r.map .int)]) = .ok (.d X4) (M ++ [.lst us]))
    (c7 : us.length ≤ 9 → ∀ (M : Mem), LD M → call 20 [.d X4, .d (.tuple us), .d (.int s)] M = .ok (.d D) M) (heq : cmpP .Eq D D = some true) :
    ∃ env, denSs call or7 [a0, some (.d X), some (.d (.tuple (r.map .int))), some (.d (.int s)), some (.d D), a5, a6, a7, none, none, a10, a11, a12] m = .ok (.ret (.d (.bool true)), env) (m ++ [.lst us]) := by
  have k1 : denE call (.lstC (.var 2)) [a0, some (.d X), some (.d (.tuple (r.map .int))), some (.d (.int s)), some (.d D), a5, a6, a7, none, none, a10, a11, a12] m = .ok (.loc m.length) (m ++ [.lst (r.map .int)]) := by
    simp only [List.map_cons, List.map_nil, List.length_cons, List.length_nil, List.replicate, List.cons_append, List.nil_append, List.getElem?_cons_zero, List.getElem?_cons_succ, List.set_cons_zero, List.set_cons_succ, Nat.reduceAdd, Nat.reduceSub, Nat.zero_add, denSs, denS, denE, denT, denTAnd, denTOr, denAnd, denOr, denEs, denO, denI, Res.bind, Res.bindN, rdd, rd, rds, dat, bol, mkL, dats, itsOf, setIx, isL, apIx, seqOf, setAll, bindT, bindTs, itsAll]
  refine ⟨[a0, some (.d X), some (.d (.tuple (r.map .int))), some (.d (.int s)), some (.d D), a5, a6, a7, some (.loc m.length), some (.d X4), a10, a11, a12], seq_step (set_step k1) ?_⟩
  show denSs call _ [a0, some (.d X), some (.d (.tuple (r.map .int))), some (.d (.int s)), some (.d D), a5, a6, a7, some (.loc m.length), none, a10, a11, a12] _ = _
  refine seq_step (set_step (call_step (es_cons (var_step rfl) (es_cons (var_step rfl) es_nil)) (c6 m hm))) ?_
  show denSs call _ [a0, some (.d X), some (.d (.tuple (r.map .int))), some (.d (.int s)), some (.d D), a5, a6, a7, some (.loc m.length), some (.d X4), a10, a11, a12] _ = _
  refine ret_step ?_
  have kl := len_loc (call := call) (i := 8) (env := [a0, some (.d X), some (.d (.tuple (r.map .int))), some (.d (.int s)), some (.d D), a5, a6, a7, some (.loc m.length), some (.d X4), a10, a11, a12]) rfl (get_last (m := m) (.lst us))
  rw [denE, denOr]
  by_cases hu : us.length ≤ 9
  · have kc := cmp_step (o := .Gt) kl (cst_step (d := .int 9)) (z := false) (by rw [o_gt, decide_eq_false (by omega)])
    have k2 := tup1_loc (call := call) (e := .var 8) (env := [a0, some (.d X), some (.d (.tuple (r.map .int))), some (.d (.int s)), some (.d D), a5, a6, a7, some (.loc m.length), some (.d X4), a10, a11, a12]) (var_step rfl) (get_last (m := m) (.lst us))
    have k3 := cmp_step (call := call) (a := .call 20 "_law_met" (.cons (.var 9) (.cons (.bi .tuple1 (.cons (.var 8) .nil)) (.cons (.var 3) .nil)))) (b := .var 4) (env := [a0, some (.d X), some (.d (.tuple (r.map .int))), some (.d (.int s)), some (.d D), a5, a6, a7, some (.loc m.length), some (.d X4), a10, a11, a12])
      (call_step (es_cons (var_step rfl) (es_cons k2 (es_cons (var_step rfl) es_nil))) (c7 hu _ (hm.appL us))) (var_step rfl) heq
    rw [kc]
    simp only [Res.bind]
    rw [denOr]
    exact k3
  · have kc := cmp_step (o := .Gt) kl (cst_step (d := .int 9)) (z := true) (by rw [o_gt, decide_eq_true (by omega)])
    rw [kc]
theorem or5_run (call : CallT) (X X2 X3 X4 D : PyData) (r ts : List Int) (s : Int) (us : List PyData) (ds : List PyData) (m : Mem) (a0 a5 a10 a11 a12 : Option Vl)
    (c2 : ∀ M, LD M → call 23 [.d X, .d (.list ds)] M = .ok (.d X2) M)
    (c3 : ∀ M, LD M → call 20 [.d X2, .d (.tuple (ts.map .int)), .d (.int s)] M = .ok (.d D) M)
    (c4 : ∀ M, LD M → call 22 [.d X, .d (.tuple [.str "was"]), .d (.int s)] M = .ok (.d X3) M)
    (c5 : ∀ M, LD M → call 20 [.d X3, .d (.tuple (r.map .int)), .d (.int 7)] M = .ok (.d D) M)
    (c6 : ∀ (M : Mem), LD M → call 24 [.d X, .loc M.length] (M ++ [.lst (r.map .int)]) = .ok (.d X4) (M ++ [.lst us]))
    (c7 : us.length ≤ 9 → ∀ (M : Mem), LD M → call 20 [.d X4, .d (.tuple us), .d (.int s)] M = .ok (.d D) M) (heq : cmpP .Eq D D = some true) (hne : cmpP .NotEq D D = some false) (hm : LD m) :
    ∃ env, denSs call or5 [a0, some (.d X), some (.d (.tuple (r.map .int))), some (.d (.int s)), some (.d D), a5, some (.d (.list ds)), some (.loc m.length), none, none, a10, a11, a12] (m ++ [.lst (ts.map .int)]) = .ok (.ret (.d (.bool true)), env) (m ++ [.lst (ts.map .int)] ++ [.lst us]) := by
  have hm2 := hm.appL (ts.map .int)
  have k2 := tup1_loc (call := call) (e := .var 7) (env := [a0, some (.d X), some (.d (.tuple (r.map .int))), some (.d (.int s)), some (.d D), a5, some (.d (.list ds)), some (.loc m.length), none, none, a10, a11, a12]) (var_step rfl) (get_last (m := m) (.lst (ts.map .int)))
  have k1 := call_step (call := call) (x := "_law_turned") (es := .cons (.var 1) (.cons (.var 6) .nil)) (env := [a0, some (.d X), some (.d (.tuple (r.map .int))), some (.d (.int s)), some (.d D), a5, some (.d (.list ds)), some (.loc m.length), none, none, a10, a11, a12]) (es_cons (var_step rfl) (es_cons (var_step rfl) es_nil)) (c2 _ hm2)
  have k3 := call_step (call := call) (x := "_law_put") (es := .cons (.var 1) (.cons (.tup (.cons (.cst (.str "was")) .nil)) (.cons (.var 3) .nil))) (env := [a0, some (.d X), some (.d (.tuple (r.map .int))), some (.d (.int s)), some (.d D), a5, some (.d (.list ds)), some (.loc m.length), none, none, a10, a11, a12]) (es_cons (var_step rfl) (es_cons tup_was (es_cons (var_step rfl) es_nil))) (c4 _ hm2)
  obtain ⟨env, e⟩ := or7_run call X4 D r s us (m ++ [.lst (ts.map .int)]) a0 a5 (some (.d (.list ds))) (some (.loc m.length)) a10 a11 a12 X hm2 c6 c7 heq
  refine ⟨env, seq_step (iff_n (tv_step (cmp_step (call_step (es_cons k1 (es_cons k2 (es_cons (var_step rfl) es_nil))) (c3 _ hm2)) (var_step rfl) hne) rfl rfl)) ?_⟩
  refine seq_step (iff_n (tv_step (cmp_step (call_step (es_cons k3 (es_cons (var_step rfl) (es_cons cst_step es_nil))) (c5 _ hm2)) (var_step rfl) hne) rfl rfl)) ?_
  exact e
theorem or3_run (call : CallT) (X X2 X3 X4 D : PyData) (r : List Int) (s : Int) (us : List PyData) (ord : List Nat) (m : Mem) (a0 a5 : Option Vl) (hr : r.length ≤ 9) (ho : ord.Perm (List.range r.length))
    (c2 : ∀ M, LD M → call 23 [.d X, .d (.list (ordP ord))] M = .ok (.d X2) M)
    (c3 : ∀ M, LD M → call 20 [.d X2, .d (.tuple ((fill ord r (List.replicate r.length 0)).map .int)), .d (.int s)] M = .ok (.d D) M)
    (c4 : ∀ M, LD M → call 22 [.d X, .d (.tuple [.str "was"]), .d (.int s)] M = .ok (.d X3) M)
    (c5 : ∀ M, LD M → call 20 [.d X3, .d (.tuple (r.map .int)), .d (.int 7)] M = .ok (.d D) M)
    (c6 : ∀ (M : Mem), LD M → call 24 [.d X, .loc M.length] (M ++ [.lst (r.map .int)]) = .ok (.d X4) (M ++ [.lst us]))
    (c7 : us.length ≤ 9 → ∀ (M : Mem), LD M → call 20 [.d X4, .d (.tuple us), .d (.int s)] M = .ok (.d D) M) (heq : cmpP .Eq D D = some true) (hne : cmpP .NotEq D D = some false) (hm : LD m) :
    ∃ env t, denSs call or3 [a0, some (.d X), some (.d (.tuple (r.map .int))), some (.d (.int s)), some (.d D), a5, some (.d (.list (ordP ord))), none, none, none, none, none, none] m = .ok (.ret (.d (.bool true)), env) (m ++ t) := by
  have hlen := ho.length_eq
  rw [List.length_range] at hlen
  have k1 : denE call (.repO (.lst false (.cons (.cst (.int 0)) .nil)) (.bi .len (.cons (.var 2) .nil))) [a0, some (.d X), some (.d (.tuple (r.map .int))), some (.d (.int s)), some (.d D), a5, some (.d (.list (ordP ord))), none, none, none, none, none, none] m = .ok (.loc m.length) (m ++ [.lst ((List.replicate r.length (0 : Int)).map .int)]) := by
    rw [← repL_one]
    have kl := len_tup (call := call) (M := m) (i := 2) (xs := r.map .int) (env := [a0, some (.d X), some (.d (.tuple (r.map .int))), some (.d (.int s)), some (.d D), a5, some (.d (.list (ordP ord))), none, none, none, none, none, none]) rfl
    rw [List.length_map] at kl
    exact repO_step lst_one kl (rep_one hr)
  obtain ⟨b10, b11, e4⟩ := fill_loop (call := call) (L := m.length) a0 (some (.d X)) (some (.d (.tuple (r.map .int)))) (some (.d (.int s))) (some (.d D)) a5 none none none ord r 0 (List.replicate r.length 0) (m ++ [.lst ((List.replicate r.length (0 : Int)).map .int)]) none none (by omega) (fun k hk => by rw [List.length_replicate]; exact ord_lt ho k hk) (get_last _)
  rw [List.drop_zero, set_last] at e4
  obtain ⟨env, e5⟩ := or5_run call X X2 X3 X4 D r (fill ord r (List.replicate r.length 0)) s us (ordP ord) m a0 a5 b10 b11 none c2 c3 c4 c5 c6 c7 heq hne hm
  refine ⟨env, [.lst ((fill ord r (List.replicate r.length 0)).map .int)] ++ [.lst us], seq_step (set_step k1) ?_⟩
  rw [← List.append_assoc]
  refine seq_step (for_step (items := enumD (r.map .int)) (src := []) (m1 := m ++ [.lst ((List.replicate r.length (0 : Int)).map .int)]) ?_ ?_) e5
  · rw [denI, var_step (v := .d (.tuple (r.map .int))) rfl]
  · rw [enumD_eq]
    exact e4
theorem bare_len : ∀ (e : Ex) (n d : Nat), e.dep ≤ d → (e.bare n).2.length ≤ 2 ^ d
  | .num _, _, _, _ => Nat.one_le_two_pow
  | .at_ _, _, _, _ => Nat.zero_le _
  | .was, _, _, _ => Nat.zero_le _
  | .op p a b, n, d, h => by
    simp only [Ex.dep] at h
    obtain ⟨d, rfl⟩ : ∃ d', d = d' + 1 := ⟨d - 1, by omega⟩
    have ia := bare_len a n d (by omega)
    have ib := bare_len b (n + (a.bare n).2.length) d (by omega)
    simp only [Ex.bare, List.length_append]
    rw [Nat.pow_succ]
    omega
theorem turn_fill {r : List Int} {s : Int} {ord : List Nat} (ho : ord.Perm (List.range r.length)) (e : Ex) (he : e.Ok r.length) : (e.turn fun k => ord.getD k 0).val (fill ord r (List.replicate r.length 0)) s = e.val r s := by
  have hlen := ho.length_eq
  rw [List.length_range] at hlen
  refine turn_val (fun k hk => ?_) e he
  have h := fill_at ord r (List.replicate r.length 0) (ord_nodup ho) hlen (fun q hq => by rw [List.length_replicate]; exact ord_lt ho q hq) k (by omega)
  rw [List.getD_eq_getElem?_getD, h, ← List.getD_eq_getElem?_getD]
theorem fill_wd : ∀ (ks : List Nat) (ws t : List Int), (∀ i ∈ ws, Wd i) → (∀ i ∈ t, Wd i) → ∀ i ∈ fill ks ws t, Wd i
  | [], _, t, _, ht => by simpa [fill] using ht
  | _ :: _, [], t, _, ht => by simpa [fill] using ht
  | k :: ks, w :: ws, t, hw, ht => by
    rw [fill]
    refine fill_wd ks ws (t.set k w) (fun i hi => hw i (List.mem_cons_of_mem _ hi)) (fun i hi => ?_)
    rcases List.mem_or_eq_of_mem_set hi with h | h
    · exact ht i h
    · subst h; exact hw i (List.mem_cons_self ..)
theorem r_or (n : Nat) (r : List Int) (s : Int) (hr : ∀ i ∈ r, Wd i) (hs : Wd s) (hl : r.length ≤ 9) (e : Ex) (m : Mem) (l k : Nat) (hm : LD m) (hk : Sk m l k) (hkk : k ≤ 80000) (he : e.Ok r.length) (de : e.dep ≤ 4) :
    ∃ m', callN T (n + 12) 26 [.loc l, .d e.P, .d (.tuple (r.map .int)), .d (.int s)] m = .ok (.d (.bool true)) m' ∧ Dn m l (k + 9) m' := by
  obtain ⟨ord, m1, e2, hp, hd⟩ := r_pops (n + 10) m l k r.length hl hm hk hkk (r.map .int) (by rw [List.length_map]) [some (.loc l), some (.d e.P), some (.d (.tuple (r.map .int))), some (.d (.int s)), some (.d (e.val r s).D2), some (.loc m.length), none, none, none, none, none, none, none] rfl rfl rfl
  have hol := hp.length_eq
  rw [List.length_range] at hol
  have tl := fill_len ord r (List.replicate r.length 0)
  rw [List.length_replicate] at tl
  have tw := fill_wd ord r (List.replicate r.length 0) hr (fun i hi => by rw [List.eq_of_mem_replicate hi]; exact ⟨by omega, by omega⟩)
  have tok : (e.turn fun k => ord.getD k 0).Ok r.length := turn_ok (fun k hk => ord_lt hp _ (by rw [List.getD_eq_getElem?_getD, List.getElem?_eq_getElem (by omega), Option.getD_some]; exact List.getElem_mem _)) e he
  have bo := bare_ok e r.length r.length (Nat.le_refl _) he
  have bv := bare_val (s := s) e r [] r.length (Nat.le_refl _) he
  rw [List.append_nil] at bv
  have bd := bare_dep e r.length
  have x1 : ∀ M, LD M → callN T (n + 11) 20 [.d e.P, .d (.tuple (r.map .int)), .d (.int s)] M = .ok (.d (e.val r s).D2) M := fun M hM => r_met n r s hr hs e 4 M hM de he
  have x2 : ∀ M, LD M → callN T (n + 11) 23 [.d e.P, .d (.list (ordP ord))] M = .ok (.d (e.turn fun k => ord.getD k 0).P) M := fun M hM => r_turned (n + 6) ord e 4 M hM de (by rw [hol]; exact he)
  have x3 : ∀ M, LD M → callN T (n + 11) 20 [.d (e.turn fun k => ord.getD k 0).P, .d (.tuple ((fill ord r (List.replicate r.length 0)).map .int)), .d (.int s)] M = .ok (.d (e.val r s).D2) M := fun M hM => by
    have h := r_met n (fill ord r (List.replicate r.length 0)) s tw hs (e.turn fun k => ord.getD k 0) 4 M hM (by rw [turn_dep]; exact de) (by rw [tl]; exact tok)
    rw [turn_fill hp e he] at h
    exact h
  have x4 : ∀ M, LD M → callN T (n + 11) 22 [.d e.P, .d (.tuple [.str "was"]), .d (.int s)] M = .ok (.d (e.putW s).P) M := fun M hM => by
    have h := r_put (n + 6) .was (.num s) e 4 M hM de (by omega)
    rw [putL_was] at h
    exact h
  have x5 : ∀ M, LD M → callN T (n + 11) 20 [.d (e.putW s).P, .d (.tuple (r.map .int)), .d (.int 7)] M = .ok (.d (e.val r s).D2) M := fun M hM => by
    have h := r_met n r 7 hr ⟨by omega, by omega⟩ (e.putW s) 4 M hM (by rw [putW_dep]; exact de) (putW_ok hs e he)
    rw [putW_val] at h
    exact h
  have hz : (e.bare r.length).2.length ≤ 16 := bare_len e r.length 4 de
  have x6 : ∀ M, LD M → callN T (n + 11) 24 [.d e.P, .loc M.length] (M ++ [.lst (r.map .int)]) = .ok (.d (e.bare r.length).1.P) (M ++ [.lst ((r ++ (e.bare r.length).2).map .int)]) := fun M hM => by
    have h := r_bare (n + 6) e 4 (M ++ [.lst (r.map .int)]) M.length r (hM.appL _) de (get_last _) (by omega)
    rw [set_last] at h
    exact h
  have x7 : ((r ++ (e.bare r.length).2).map PyData.int).length ≤ 9 → ∀ M, LD M → callN T (n + 11) 20 [.d (e.bare r.length).1.P, .d (.tuple ((r ++ (e.bare r.length).2).map .int)), .d (.int s)] M = .ok (.d (e.val r s).D2) M := fun hu M hM => by
    have h := r_met n (r ++ (e.bare r.length).2) s (fun i hi => (List.mem_append.mp hi).elim (hr i) (bo.2 i)) hs (e.bare r.length).1 4 M hM (by rw [bd]; exact de) (by rw [List.length_append]; exact bo.1)
    rw [bv] at h
    exact h
  obtain ⟨env, t, e3⟩ := or3_run (callN T (n + 11)) e.P (e.turn fun k => ord.getD k 0).P (e.putW s).P (e.bare r.length).1.P (e.val r s).D2 r s ((r ++ (e.bare r.length).2).map .int) ord (m1 ++ [.lst []]) (some (.loc l)) (some (.loc m.length)) hl hp x2 x3 x4 x5 x6 x7 (eq_d2 e) (ne_d2 e) (hd.1.appL _)
  refine ⟨m1, call_moreM (t := [.lst []] ++ t) (f := f26) hd.1 hd.len rfl rfl rfl ?_, hd.mono (by omega)⟩
  rw [← List.append_assoc]
  have hx := x1 m hm
  rw [show n + 10 + 1 = n + 11 from rfl] at e2
  generalize callN T (n + 11) = call at *
  suffices h : denSs call f26.body [some (.loc l), some (.d e.P), some (.d (.tuple (r.map .int))), some (.d (.int s)), none, none, none, none, none, none, none, none, none] m = .ok (.ret (.d (.bool true)), env) (m1 ++ [.lst []] ++ t) from congrArg retOf h
  refine seq_step (set_step (call_step (es_cons (var_step rfl) (es_cons (var_step rfl) (es_cons (var_step rfl) es_nil))) hx)) ?_
  refine seq_step (set_step (v := .loc m.length) (m1 := m ++ [.lst (ordP (List.range r.length))]) ?_) ?_
  · have hr2 : lrOk (r.length : Int) = true := by
      unfold lrOk
      rw [Bool.and_eq_true, decide_eq_true_eq, decide_eq_true_eq]
      omega
    rw [← rng_ord]
    simp only [List.map_cons, List.map_nil, List.length_cons, List.length_nil, List.replicate, List.cons_append, List.nil_append, List.getElem?_cons_zero, List.getElem?_cons_succ, List.set_cons_zero, List.set_cons_succ, Nat.reduceAdd, Nat.reduceSub, Nat.zero_add, denSs, denS, denE, denT, denTAnd, denTOr, denAnd, denOr, denEs, denO, denI, Res.bind, Res.bindN, rdd, rd, rds, dat, bol, mkL, dats, itsOf, setIx, isL, apIx, seqOf, setAll, bindT, bindTs, itsAll, p_int_n, p_int_b, p_int_i, p_int_s, p_int_l, p_int_t, p_int_d, p_bool_n, p_bool_b, p_bool_i, p_bool_s, p_bool_l, p_bool_t, p_bool_d, p_tuple_n, p_tuple_b, p_tuple_i, p_tuple_s, p_tuple_l, p_tuple_t, p_tuple_d, p_list_n, p_list_b, p_list_i, p_list_s, p_list_l, p_list_t, p_list_d, p_str_n, p_str_b, p_str_i, p_str_s, p_str_l, p_str_t, p_str_d, p_dict_n, p_dict_b, p_dict_i, p_dict_s, p_dict_l, p_dict_t, p_dict_d, Bool.true_or, Bool.or_true, Bool.false_or, Bool.or_false, Bool.true_and, Bool.and_true, Bool.false_and, Bool.and_false, Bool.not_true, Bool.not_false, o_len_l, o_len_t, o_abs, o_max, o_min, o_int, o_intb, o_tup_l, o_tup_t, o_list_l, o_list_t, o_all, o_any, o_divmod, o_max1, o_min1, o_sum1, o_str, o_strs, o_add, o_add_l, o_add_t, o_sub, o_mul, o_mul_l, o_mul_t, o_div, o_mod, o_pow, o_lt, o_le, o_gt, o_ge, o_eq, o_ne, o_nes, o_eqs, o_eqb, o_tn, o_tb, o_ti, o_tl, o_tt, o_ixl, o_ixt, o_sll, o_slt, if_true, if_false, decide_true, decide_false, retOf, Option.map_some, Bool.false_eq_true, List.length_map, hr2]
  · exact seq_step (set_step e2) e3
/-! ### the law's turns -/
theorem lc_drawI {call : CallT} {v : Nat} {x : List Str} {s : CI} {e : CE} {env : Sl} (P : Int → Prop) (B : Nat) (m00 mm : Mem) (l k c : Nat) (W : Int) (hm : LD mm) (hs : Sk mm l k) (hI : denI call s env m00 = .ok ⟨rngL 0 W, []⟩ mm) (hW : W.toNat ≤ 900) (hk : k + c * W.toNat ≤ B)
    (he : ∀ (y : PyData) (m1 : Mem) (k1 : Nat), LD m1 → Sk m1 l k1 → k1 ≤ B → ∃ (i : Int) (m2 : Mem), denE call e (env.set v (some (.d y))) m1 = .ok (.d (.int i)) m2 ∧ P i ∧ Dn m1 l (k1 + c) m2) :
    ∃ (r : List Int) (m' : Mem), denE call (.lc false (.nm v) x s .nil e) env m00 = .ok (.d (.list (r.map .int))) m' ∧ r.length = W.toNat ∧ (∀ i ∈ r, P i) ∧ Dn mm l (k + c * W.toNat) m' := by
  have hlen : (rngL 0 W).length = W.toNat := by rw [rngL_len, Int.sub_zero]
  obtain ⟨ys, m', h1, h2, h3, h4⟩ := lc_stepsN (v := v) (L := mm.length) (c := denTAnd call .nil) (e := denE call e) (env := env) (fun j m1 => Dn mm l (k + c * j) m1) (fun d => ∃ i, d = .int i ∧ P i) (fun _ _ => by simp only [denTAnd]) (fun _ _ h => h.len) W.toNat (rngL 0 W) [] 0 mm
    (by rw [hlen, List.length_nil, Nat.zero_add]; unfold sizeLine; omega) (by rw [hlen]; omega) (by rw [Nat.mul_zero, Nat.add_zero]; exact dn_refl hm hs) (by
      intro j m1 y a hj _ hI
      have hcj : c * j ≤ c * W.toNat := Nat.mul_le_mul_left c (by omega)
      obtain ⟨i, m2, e1, hp, s2⟩ := he y (m1 ++ [.lst a]) (k + c * j) (hI.1.appL a) (hI.2.2.app _) (by omega)
      obtain ⟨m3, rfl, s3⟩ := s2.in hI.1 hI.2.2.lt
      refine ⟨.int i, m3, e1, ⟨i, rfl, hp⟩, (hI.trans s3).mono ?_⟩
      rw [Nat.mul_succ]
      omega)
  rw [hlen] at h1 h3
  rw [Nat.zero_add] at h3
  have hr : ∃ r : List Int, ys = r.map .int ∧ ∀ i ∈ r, P i := by
    clear h1 h3 h4
    induction ys with
    | nil => exact ⟨[], rfl, fun i hi => by cases hi⟩
    | cons y ys ih =>
      obtain ⟨i, rfl, hp⟩ := h2 y (List.mem_cons_self ..)
      obtain ⟨r, rfl, hr⟩ := ih fun z hz => h2 z (List.mem_cons_of_mem _ hz)
      exact ⟨i :: r, rfl, fun j hj => (List.mem_cons.mp hj).elim (fun e => e ▸ hp) (hr j)⟩
  obtain ⟨r, rfl, hr⟩ := hr
  rw [List.length_map] at h1
  rw [List.nil_append] at h4
  exact ⟨r, m', lc_step hI h4 h3.len h3.1, h1, hr, h3⟩
def lwB : CSs := match f27.body with
  | .cons (.for_ _ _ b) _ => b
  | _ => .nil
def ltB : CSs := match lwB with
  | .cons _ (.cons _ (.cons _ (.cons (.for_ _ _ b) _))) => b
  | _ => .nil
def ltI : CS := match ltB with
  | .cons _ (.cons s _) => s
  | _ => .pass
def op4 : List PyData := [.str "plus", .str "over", .str "times", .str "less"]
theorem op4_at (w : Int) (w0 : 0 ≤ w) (w1 : w < 4) : ∃ o : Op, L2.atI op4 w = some (.str o.nm) := by
  obtain ⟨x, ex, o, rfl⟩ := atI_all (P := fun x => ∃ o : Op, x = PyData.str o.nm) (xs := [Op.plus, .over, .times, .less].map fun o => PyData.str o.nm) w0 w1 (by
    intro x hx
    obtain ⟨o, _, rfl⟩ := List.mem_map.mp hx
    exact ⟨o, rfl⟩)
  exact ⟨o, ex⟩
theorem lt_has (call : CallT) (S A t5 t7 t8 : Option Vl) (l : Nat) (rs : List PyData) (s : PyData) (X : PyData) (n : Nat) (hn : rs.length = n) (m : Mem) (e2 : call 21 [.d X, .d (.tuple [.str "at", .int n])] m = .ok (.d (.bool true)) m) :
    denS call ltI [S, A, some (.loc l), some (.d (.tuple rs)), some (.d s), t5, some (.d X), t7, t8] m = .ok (.nx, [S, A, some (.loc l), some (.d (.tuple rs)), some (.d s), t5, some (.d X), t7, t8]) m := by
  refine iff_n (m1 := m) ?_
  simp only [List.map_cons, List.map_nil, List.length_cons, List.length_nil, List.replicate, List.cons_append, List.nil_append, List.getElem?_cons_zero, List.getElem?_cons_succ, List.set_cons_zero, List.set_cons_succ, Nat.reduceAdd, Nat.reduceSub, Nat.zero_add, denSs, denS, denE, denT, denTAnd, denTOr, denAnd, denOr, denEs, denO, denI, Res.bind, Res.bindN, rdd, rd, rds, dat, bol, mkL, dats, itsOf, setIx, isL, apIx, seqOf, setAll, bindT, bindTs, itsAll, p_int_n, p_int_b, p_int_i, p_int_s, p_int_l, p_int_t, p_int_d, p_bool_n, p_bool_b, p_bool_i, p_bool_s, p_bool_l, p_bool_t, p_bool_d, p_tuple_n, p_tuple_b, p_tuple_i, p_tuple_s, p_tuple_l, p_tuple_t, p_tuple_d, p_list_n, p_list_b, p_list_i, p_list_s, p_list_l, p_list_t, p_list_d, p_str_n, p_str_b, p_str_i, p_str_s, p_str_l, p_str_t, p_str_d, p_dict_n, p_dict_b, p_dict_i, p_dict_s, p_dict_l, p_dict_t, p_dict_d, Bool.true_or, Bool.or_true, Bool.false_or, Bool.or_false, Bool.true_and, Bool.and_true, Bool.false_and, Bool.and_false, Bool.not_true, Bool.not_false, o_len_l, o_len_t, o_abs, o_max, o_min, o_int, o_intb, o_tup_l, o_tup_t, o_list_l, o_list_t, o_all, o_any, o_divmod, o_max1, o_min1, o_sum1, o_str, o_strs, o_add, o_add_l, o_add_t, o_sub, o_mul, o_mul_l, o_mul_t, o_div, o_mod, o_pow, o_lt, o_le, o_gt, o_ge, o_eq, o_ne, o_nes, o_eqs, o_eqb, o_tn, o_tb, o_ti, o_tl, o_tt, o_ixl, o_ixt, o_sll, o_slt, if_true, if_false, decide_true, decide_false, retOf, Option.map_some, Bool.false_eq_true, hn, sz_le, Nat.reduceLeDiff, e2, truP]
theorem lt_not (call : CallT) (S A t5 t7 t8 : Option Vl) (l : Nat) (rs : List PyData) (s : PyData) (X : PyData) (n : Nat) (hn : rs.length = n) (m m2 : Mem) (z : Int) (o : PyData) (e2 : call 21 [.d X, .d (.tuple [.str "at", .int n])] m = .ok (.d (.bool false)) m)
    (e3 : call 16 [.loc l, .d (.int 4)] m = .ok (.d (.int z)) m2) (ho : L2.atI op4 z = some o) :
    denS call ltI [S, A, some (.loc l), some (.d (.tuple rs)), some (.d s), t5, some (.d X), t7, t8] m = .ok (.nx, [S, A, some (.loc l), some (.d (.tuple rs)), some (.d s), t5, some (.d (.tuple [o, .tuple [.str "at", .int n], X])), t7, some (.d o)]) m2 := by
  have ho : L2.atI [PyData.str "plus", PyData.str "over", PyData.str "times", PyData.str "less"] z = some o := ho
  refine iff_t (m1 := m) ?_ ?_
  · simp only [List.map_cons, List.map_nil, List.length_cons, List.length_nil, List.replicate, List.cons_append, List.nil_append, List.getElem?_cons_zero, List.getElem?_cons_succ, List.set_cons_zero, List.set_cons_succ, Nat.reduceAdd, Nat.reduceSub, Nat.zero_add, denSs, denS, denE, denT, denTAnd, denTOr, denAnd, denOr, denEs, denO, denI, Res.bind, Res.bindN, rdd, rd, rds, dat, bol, mkL, dats, itsOf, setIx, isL, apIx, seqOf, setAll, bindT, bindTs, itsAll, p_int_n, p_int_b, p_int_i, p_int_s, p_int_l, p_int_t, p_int_d, p_bool_n, p_bool_b, p_bool_i, p_bool_s, p_bool_l, p_bool_t, p_bool_d, p_tuple_n, p_tuple_b, p_tuple_i, p_tuple_s, p_tuple_l, p_tuple_t, p_tuple_d, p_list_n, p_list_b, p_list_i, p_list_s, p_list_l, p_list_t, p_list_d, p_str_n, p_str_b, p_str_i, p_str_s, p_str_l, p_str_t, p_str_d, p_dict_n, p_dict_b, p_dict_i, p_dict_s, p_dict_l, p_dict_t, p_dict_d, Bool.true_or, Bool.or_true, Bool.false_or, Bool.or_false, Bool.true_and, Bool.and_true, Bool.false_and, Bool.and_false, Bool.not_true, Bool.not_false, o_len_l, o_len_t, o_abs, o_max, o_min, o_int, o_intb, o_tup_l, o_tup_t, o_list_l, o_list_t, o_all, o_any, o_divmod, o_max1, o_min1, o_sum1, o_str, o_strs, o_add, o_add_l, o_add_t, o_sub, o_mul, o_mul_l, o_mul_t, o_div, o_mod, o_pow, o_lt, o_le, o_gt, o_ge, o_eq, o_ne, o_nes, o_eqs, o_eqb, o_tn, o_tb, o_ti, o_tl, o_tt, o_ixl, o_ixt, o_sll, o_slt, if_true, if_false, decide_true, decide_false, retOf, Option.map_some, Bool.false_eq_true, hn, sz_le, Nat.reduceLeDiff, e2, truP]
  · refine seq_step (set_step (v := .d o) (m1 := m2) ?_) (one_step (set_step (v := .d (.tuple [o, .tuple [.str "at", .int n], X])) (m1 := m2) ?_))
    · simp only [List.map_cons, List.map_nil, List.length_cons, List.length_nil, List.replicate, List.cons_append, List.nil_append, List.getElem?_cons_zero, List.getElem?_cons_succ, List.set_cons_zero, List.set_cons_succ, Nat.reduceAdd, Nat.reduceSub, Nat.zero_add, denSs, denS, denE, denT, denTAnd, denTOr, denAnd, denOr, denEs, denO, denI, Res.bind, Res.bindN, rdd, rd, rds, dat, bol, mkL, dats, itsOf, setIx, isL, apIx, seqOf, setAll, bindT, bindTs, itsAll, p_int_n, p_int_b, p_int_i, p_int_s, p_int_l, p_int_t, p_int_d, p_bool_n, p_bool_b, p_bool_i, p_bool_s, p_bool_l, p_bool_t, p_bool_d, p_tuple_n, p_tuple_b, p_tuple_i, p_tuple_s, p_tuple_l, p_tuple_t, p_tuple_d, p_list_n, p_list_b, p_list_i, p_list_s, p_list_l, p_list_t, p_list_d, p_str_n, p_str_b, p_str_i, p_str_s, p_str_l, p_str_t, p_str_d, p_dict_n, p_dict_b, p_dict_i, p_dict_s, p_dict_l, p_dict_t, p_dict_d, Bool.true_or, Bool.or_true, Bool.false_or, Bool.or_false, Bool.true_and, Bool.and_true, Bool.false_and, Bool.and_false, Bool.not_true, Bool.not_false, o_len_l, o_len_t, o_abs, o_max, o_min, o_int, o_intb, o_tup_l, o_tup_t, o_list_l, o_list_t, o_all, o_any, o_divmod, o_max1, o_min1, o_sum1, o_str, o_strs, o_add, o_add_l, o_add_t, o_sub, o_mul, o_mul_l, o_mul_t, o_div, o_mod, o_pow, o_lt, o_le, o_gt, o_ge, o_eq, o_ne, o_nes, o_eqs, o_eqb, o_tn, o_tb, o_ti, o_tl, o_tt, o_ixl, o_ixt, o_sll, o_slt, if_true, if_false, decide_true, decide_false, retOf, Option.map_some, Bool.false_eq_true, sz_le, Nat.reduceLeDiff, e3, ho]
    · simp only [List.map_cons, List.map_nil, List.length_cons, List.length_nil, List.replicate, List.cons_append, List.nil_append, List.getElem?_cons_zero, List.getElem?_cons_succ, List.set_cons_zero, List.set_cons_succ, Nat.reduceAdd, Nat.reduceSub, Nat.zero_add, denSs, denS, denE, denT, denTAnd, denTOr, denAnd, denOr, denEs, denO, denI, Res.bind, Res.bindN, rdd, rd, rds, dat, bol, mkL, dats, itsOf, setIx, isL, apIx, seqOf, setAll, bindT, bindTs, itsAll, p_int_n, p_int_b, p_int_i, p_int_s, p_int_l, p_int_t, p_int_d, p_bool_n, p_bool_b, p_bool_i, p_bool_s, p_bool_l, p_bool_t, p_bool_d, p_tuple_n, p_tuple_b, p_tuple_i, p_tuple_s, p_tuple_l, p_tuple_t, p_tuple_d, p_list_n, p_list_b, p_list_i, p_list_s, p_list_l, p_list_t, p_list_d, p_str_n, p_str_b, p_str_i, p_str_s, p_str_l, p_str_t, p_str_d, p_dict_n, p_dict_b, p_dict_i, p_dict_s, p_dict_l, p_dict_t, p_dict_d, Bool.true_or, Bool.or_true, Bool.false_or, Bool.or_false, Bool.true_and, Bool.and_true, Bool.false_and, Bool.and_false, Bool.not_true, Bool.not_false, o_len_l, o_len_t, o_abs, o_max, o_min, o_int, o_intb, o_tup_l, o_tup_t, o_list_l, o_list_t, o_all, o_any, o_divmod, o_max1, o_min1, o_sum1, o_str, o_strs, o_add, o_add_l, o_add_t, o_sub, o_mul, o_mul_l, o_mul_t, o_div, o_mod, o_pow, o_lt, o_le, o_gt, o_ge, o_eq, o_ne, o_nes, o_eqs, o_eqb, o_tn, o_tb, o_ti, o_tl, o_tt, o_ixl, o_ixt, o_sll, o_slt, if_true, if_false, decide_true, decide_false, retOf, Option.map_some, Bool.false_eq_true, hn, sz_le, Nat.reduceLeDiff]
theorem lt_body (call : CallT) (S A t5 t6 t7 t8 t8' : Option Vl) (l : Nat) (rs : List PyData) (s : Int) (X X' O : PyData) (n : Nat) (N1 : Int) (hn : rs.length = n) (hN : (n : Int) + 1 = N1) (m m1 m2 m3 m4 : Mem)
    (e1 : call 18 [.loc l, .d (.int N1), .d (.int 2), .d (.bool true)] m = .ok (.d X) m1)
    (e2 : denS call ltI [S, A, some (.loc l), some (.d (.tuple rs)), some (.d (.int s)), t5, some (.d X), t7, t8] m1 = .ok (.nx, [S, A, some (.loc l), some (.d (.tuple rs)), some (.d (.int s)), t5, some (.d X'), t7, t8']) m2)
    (e4 : call 18 [.loc l, .d (.int n), .d (.int 2), .d (.bool true)] m2 = .ok (.d O) m3)
    (e5 : call 25 [.d X', .d O, .d (.tuple rs), .d (.int s)] m3 = .ok (.d (.bool true)) m3)
    (e6 : call 26 [.loc l, .d O, .d (.tuple rs), .d (.int s)] m3 = .ok (.d (.bool true)) m4) :
    denSs call ltB [S, A, some (.loc l), some (.d (.tuple rs)), some (.d (.int s)), t5, t6, t7, t8] m = .ok (.nx, [S, A, some (.loc l), some (.d (.tuple rs)), some (.d (.int s)), t5, some (.d X'), some (.d O), t8']) m4 := by
  refine seq_step (set_step (v := .d X) (m1 := m1) (by simp only [List.map_cons, List.map_nil, List.length_cons, List.length_nil, List.replicate, List.cons_append, List.nil_append, List.getElem?_cons_zero, List.getElem?_cons_succ, List.set_cons_zero, List.set_cons_succ, Nat.reduceAdd, Nat.reduceSub, Nat.zero_add, denSs, denS, denE, denT, denTAnd, denTOr, denAnd, denOr, denEs, denO, denI, Res.bind, Res.bindN, rdd, rd, rds, dat, bol, mkL, dats, itsOf, setIx, isL, apIx, seqOf, setAll, bindT, bindTs, itsAll, p_int_n, p_int_b, p_int_i, p_int_s, p_int_l, p_int_t, p_int_d, p_bool_n, p_bool_b, p_bool_i, p_bool_s, p_bool_l, p_bool_t, p_bool_d, p_tuple_n, p_tuple_b, p_tuple_i, p_tuple_s, p_tuple_l, p_tuple_t, p_tuple_d, p_list_n, p_list_b, p_list_i, p_list_s, p_list_l, p_list_t, p_list_d, p_str_n, p_str_b, p_str_i, p_str_s, p_str_l, p_str_t, p_str_d, p_dict_n, p_dict_b, p_dict_i, p_dict_s, p_dict_l, p_dict_t, p_dict_d, Bool.true_or, Bool.or_true, Bool.false_or, Bool.or_false, Bool.true_and, Bool.and_true, Bool.false_and, Bool.and_false, Bool.not_true, Bool.not_false, o_len_l, o_len_t, o_abs, o_max, o_min, o_int, o_intb, o_tup_l, o_tup_t, o_list_l, o_list_t, o_all, o_any, o_divmod, o_max1, o_min1, o_sum1, o_str, o_strs, o_add, o_add_l, o_add_t, o_sub, o_mul, o_mul_l, o_mul_t, o_div, o_mod, o_pow, o_lt, o_le, o_gt, o_ge, o_eq, o_ne, o_nes, o_eqs, o_eqb, o_tn, o_tb, o_ti, o_tl, o_tt, o_ixl, o_ixt, o_sll, o_slt, if_true, if_false, decide_true, decide_false, retOf, Option.map_some, Bool.false_eq_true, hn, hN, e1])) (seq_step e2 ?_)
  refine seq_step (set_step (v := .d O) (m1 := m3) (by simp only [List.map_cons, List.map_nil, List.length_cons, List.length_nil, List.replicate, List.cons_append, List.nil_append, List.getElem?_cons_zero, List.getElem?_cons_succ, List.set_cons_zero, List.set_cons_succ, Nat.reduceAdd, Nat.reduceSub, Nat.zero_add, denSs, denS, denE, denT, denTAnd, denTOr, denAnd, denOr, denEs, denO, denI, Res.bind, Res.bindN, rdd, rd, rds, dat, bol, mkL, dats, itsOf, setIx, isL, apIx, seqOf, setAll, bindT, bindTs, itsAll, p_int_n, p_int_b, p_int_i, p_int_s, p_int_l, p_int_t, p_int_d, p_bool_n, p_bool_b, p_bool_i, p_bool_s, p_bool_l, p_bool_t, p_bool_d, p_tuple_n, p_tuple_b, p_tuple_i, p_tuple_s, p_tuple_l, p_tuple_t, p_tuple_d, p_list_n, p_list_b, p_list_i, p_list_s, p_list_l, p_list_t, p_list_d, p_str_n, p_str_b, p_str_i, p_str_s, p_str_l, p_str_t, p_str_d, p_dict_n, p_dict_b, p_dict_i, p_dict_s, p_dict_l, p_dict_t, p_dict_d, Bool.true_or, Bool.or_true, Bool.false_or, Bool.or_false, Bool.true_and, Bool.and_true, Bool.false_and, Bool.and_false, Bool.not_true, Bool.not_false, o_len_l, o_len_t, o_abs, o_max, o_min, o_int, o_intb, o_tup_l, o_tup_t, o_list_l, o_list_t, o_all, o_any, o_divmod, o_max1, o_min1, o_sum1, o_str, o_strs, o_add, o_add_l, o_add_t, o_sub, o_mul, o_mul_l, o_mul_t, o_div, o_mod, o_pow, o_lt, o_le, o_gt, o_ge, o_eq, o_ne, o_nes, o_eqs, o_eqb, o_tn, o_tb, o_ti, o_tl, o_tt, o_ixl, o_ixt, o_sll, o_slt, if_true, if_false, decide_true, decide_false, retOf, Option.map_some, Bool.false_eq_true, hn, e4])) ?_
  refine seq_step (iff_n (m1 := m3) (by simp only [List.map_cons, List.map_nil, List.length_cons, List.length_nil, List.replicate, List.cons_append, List.nil_append, List.getElem?_cons_zero, List.getElem?_cons_succ, List.set_cons_zero, List.set_cons_succ, Nat.reduceAdd, Nat.reduceSub, Nat.zero_add, denSs, denS, denE, denT, denTAnd, denTOr, denAnd, denOr, denEs, denO, denI, Res.bind, Res.bindN, rdd, rd, rds, dat, bol, mkL, dats, itsOf, setIx, isL, apIx, seqOf, setAll, bindT, bindTs, itsAll, p_int_n, p_int_b, p_int_i, p_int_s, p_int_l, p_int_t, p_int_d, p_bool_n, p_bool_b, p_bool_i, p_bool_s, p_bool_l, p_bool_t, p_bool_d, p_tuple_n, p_tuple_b, p_tuple_i, p_tuple_s, p_tuple_l, p_tuple_t, p_tuple_d, p_list_n, p_list_b, p_list_i, p_list_s, p_list_l, p_list_t, p_list_d, p_str_n, p_str_b, p_str_i, p_str_s, p_str_l, p_str_t, p_str_d, p_dict_n, p_dict_b, p_dict_i, p_dict_s, p_dict_l, p_dict_t, p_dict_d, Bool.true_or, Bool.or_true, Bool.false_or, Bool.or_false, Bool.true_and, Bool.and_true, Bool.false_and, Bool.and_false, Bool.not_true, Bool.not_false, o_len_l, o_len_t, o_abs, o_max, o_min, o_int, o_intb, o_tup_l, o_tup_t, o_list_l, o_list_t, o_all, o_any, o_divmod, o_max1, o_min1, o_sum1, o_str, o_strs, o_add, o_add_l, o_add_t, o_sub, o_mul, o_mul_l, o_mul_t, o_div, o_mod, o_pow, o_lt, o_le, o_gt, o_ge, o_eq, o_ne, o_nes, o_eqs, o_eqb, o_tn, o_tb, o_ti, o_tl, o_tt, o_ixl, o_ixt, o_sll, o_slt, if_true, if_false, decide_true, decide_false, retOf, Option.map_some, Bool.false_eq_true, e5, truP])) (one_step (iff_n (m1 := m4) (by simp only [List.map_cons, List.map_nil, List.length_cons, List.length_nil, List.replicate, List.cons_append, List.nil_append, List.getElem?_cons_zero, List.getElem?_cons_succ, List.set_cons_zero, List.set_cons_succ, Nat.reduceAdd, Nat.reduceSub, Nat.zero_add, denSs, denS, denE, denT, denTAnd, denTOr, denAnd, denOr, denEs, denO, denI, Res.bind, Res.bindN, rdd, rd, rds, dat, bol, mkL, dats, itsOf, setIx, isL, apIx, seqOf, setAll, bindT, bindTs, itsAll, p_int_n, p_int_b, p_int_i, p_int_s, p_int_l, p_int_t, p_int_d, p_bool_n, p_bool_b, p_bool_i, p_bool_s, p_bool_l, p_bool_t, p_bool_d, p_tuple_n, p_tuple_b, p_tuple_i, p_tuple_s, p_tuple_l, p_tuple_t, p_tuple_d, p_list_n, p_list_b, p_list_i, p_list_s, p_list_l, p_list_t, p_list_d, p_str_n, p_str_b, p_str_i, p_str_s, p_str_l, p_str_t, p_str_d, p_dict_n, p_dict_b, p_dict_i, p_dict_s, p_dict_l, p_dict_t, p_dict_d, Bool.true_or, Bool.or_true, Bool.false_or, Bool.or_false, Bool.true_and, Bool.and_true, Bool.false_and, Bool.and_false, Bool.not_true, Bool.not_false, o_len_l, o_len_t, o_abs, o_max, o_min, o_int, o_intb, o_tup_l, o_tup_t, o_list_l, o_list_t, o_all, o_any, o_divmod, o_max1, o_min1, o_sum1, o_str, o_strs, o_add, o_add_l, o_add_t, o_sub, o_mul, o_mul_l, o_mul_t, o_div, o_mod, o_pow, o_lt, o_le, o_gt, o_ge, o_eq, o_ne, o_nes, o_eqs, o_eqb, o_tn, o_tb, o_ti, o_tl, o_tt, o_ixl, o_ixt, o_sll, o_slt, if_true, if_false, decide_true, decide_false, retOf, Option.map_some, Bool.false_eq_true, e6, truP])))
theorem turn_in (n : Nat) (S A t5 t6 t7 t8 : Option Vl) (l : Nat) (r : List Int) (s : Int) (hr : ∀ i ∈ r, Wd i) (hs : Wd s) (hl : r.length ≤ 6) (m : Mem) (k : Nat) (hm : LD m) (hk : Sk m l k) (hkk : k ≤ 70000) :
    ∃ t6' t7' t8' m', denSs (callN T (n + 12)) ltB [S, A, some (.loc l), some (.d (.tuple (r.map .int))), some (.d (.int s)), t5, t6, t7, t8] m = .ok (.nx, [S, A, some (.loc l), some (.d (.tuple (r.map .int))), some (.d (.int s)), t5, t6', t7', t8']) m' ∧ Dn m l (k + 100) m' := by
  obtain ⟨e, m1, e1, o1, d1, s1⟩ := r_expr (n + 7) l (r.length + 1) (by omega) 2 2 m k (by omega) (by omega) hm hk (by omega)
  rw [show n + 7 + 2 + 3 = n + 12 from rfl] at e1
  have hh := r_has (n + 9) r.length e 2 m1 s1.1 d1 (by omega)
  rw [show n + 9 + 2 + 1 = n + 12 from rfl] at hh
  have rl : (r.map PyData.int).length = r.length := List.length_map ..
  have go : ∃ (X' : Ex) (t8' : Option Vl) (m2 : Mem), denS (callN T (n + 12)) ltI [S, A, some (.loc l), some (.d (.tuple (r.map .int))), some (.d (.int s)), t5, some (.d e.P), t7, t8] m1 = .ok (.nx, [S, A, some (.loc l), some (.d (.tuple (r.map .int))), some (.d (.int s)), t5, some (.d X'.P), t7, t8']) m2 ∧ Dn m1 l (k + 30) m2 ∧ X'.Ok (r.length + 1) ∧ X'.dep ≤ 4 ∧ ∀ o : Ex, o.dep ≤ 2 → (X'.put r.length o).dep ≤ 4 := by
    cases hb : e.has r.length with
    | true =>
      rw [hb] at hh
      exact ⟨e, t8, m1, lt_has _ S A t5 t7 t8 l _ _ e.P r.length rl m1 hh, dn_refl s1.1 (s1.2.2.mono (by omega)), o1, by omega, fun o ho => by have := put_dep r.length o e; omega⟩
    | false =>
      obtain ⟨z, m2, e3, z0, z1, s2⟩ := r_draw (n + 11) m1 l (k + 8 * 2 ^ 2 - 3) 4 s1.1 s1.2.2 (by omega) (by omega) (by omega)
      obtain ⟨o, eo⟩ := op4_at z z0 z1
      refine ⟨.op o (.at_ r.length) e, some (.d (.str o.nm)), m2, lt_not _ S A t5 t7 t8 l _ _ e.P r.length rl m1 m2 z (.str o.nm) (by rw [hb] at hh; exact hh) e3 eo, s2.mono (by omega), ⟨Nat.lt_succ_self _, o1⟩, ?_, fun q hq => ?_⟩
      · simp only [Ex.dep]; omega
      · simp only [Ex.put, if_true, put_same e hb, Ex.dep]; omega
  obtain ⟨X', t8', m2, e2, s2, oX, dX, pX⟩ := go
  obtain ⟨o, m3, e4, o2, d2, s3⟩ := r_expr (n + 7) l r.length (by omega) 2 2 m2 (k + 30) (by omega) (by omega) s2.1 s2.2.2 (by omega)
  rw [show n + 7 + 2 + 3 = n + 12 from rfl] at e4
  have e5 := r_pr n r s hr hs (by omega) X' o m3 s3.1 oX o2 dX (by omega) (pX o d2)
  obtain ⟨m4, e6, s4⟩ := r_or n r s hr hs (by omega) o m3 l (k + 30 + 8 * 2 ^ 2 - 3) s3.1 s3.2.2 (by omega) o2 (by omega)
  have hN : ((r.length : Nat) : Int) + 1 = ((r.length + 1 : Nat) : Int) := rfl
  exact ⟨_, _, _, m4, lt_body _ S A t5 t6 t7 t8 t8' l (r.map .int) s e.P X'.P o.P r.length _ rl hN m m1 m2 m3 m4 e1 e2 e4 e5 e6, (((s1.trans s2).trans s3).trans s4).mono (by omega)⟩
theorem lt_loop (n : Nat) (S A t5 t6 t7 t8 : Option Vl) (l : Nat) (r : List Int) (s : Int) (hr : ∀ i ∈ r, Wd i) (hs : Wd s) (hl : r.length ≤ 6) (m : Mem) (k : Nat) (hm : LD m) (hk : Sk m l k) (hkk : k ≤ 60000) :
    ∃ t5' t6' t7' t8' m', forLoop [] (.nm 5) (denSs (callN T (n + 12)) ltB) (rngL 0 3) [S, A, some (.loc l), some (.d (.tuple (r.map .int))), some (.d (.int s)), t5, t6, t7, t8] m = .ok (.nx, [S, A, some (.loc l), some (.d (.tuple (r.map .int))), some (.d (.int s)), t5', t6', t7', t8']) m' ∧ Dn m l (k + 300) m' := by
  have hlen : (rngL 0 3).length = 3 := by rw [rngL_len]; rfl
  obtain ⟨env', m', e, ⟨a5, a6, a7, a8, rfl⟩, hd⟩ := for_allN (v := 5) (b := denSs (callN T (n + 12)) ltB) (fun j env mm => (∃ a5 a6 a7 a8, env = [S, A, some (.loc l), some (.d (.tuple (r.map .int))), some (.d (.int s)), a5, a6, a7, a8]) ∧ Dn m l (k + 100 * j) mm) 3 (rngL 0 3) 0 [S, A, some (.loc l), some (.d (.tuple (r.map .int))), some (.d (.int s)), t5, t6, t7, t8] m ⟨⟨_, _, _, _, rfl⟩, dn_refl hm hk⟩ (by rw [hlen]; omega) (by
    rintro j x env mm hj hx ⟨⟨a5, a6, a7, a8, rfl⟩, hd⟩
    obtain ⟨b6, b7, b8, m2, e, s2⟩ := turn_in n S A (some (.d x)) a6 a7 a8 l r s hr hs hl mm (k + 100 * j) hd.1 hd.2.2 (by omega)
    exact ⟨_, m2, e, ⟨_, _, _, _, rfl⟩, (hd.trans s2).mono (by omega)⟩)
  rw [hlen] at hd
  exact ⟨a5, a6, a7, a8, m', e, hd⟩
theorem lw_body (call : CallT) (S A a2 a3 a4 a5 a6 a7 a8 t5 t6 t7 t8 : Option Vl) (sc at_ : PyData) (hS : S = some (.d sc)) (hA : A = some (.d at_)) (l : Nat) (xs : List PyData) (s : Int) (m m0 m1 m2 m3 : Mem)
    (e1 : call 15 [.d sc, .d at_] m = .ok (.loc l) m0)
    (e2 : denE call (.lc false (.nm 5) ["turn"] (.rng1 (.bin .Add (.cst (.int 1)) (.call 16 "_law_draw" (.cons (.var 2) (.cons (.cst (.int 6)) .nil))))) .nil (.call 19 "_law_word" (.cons (.var 2) .nil))) [S, A, some (.loc l), a3, a4, a5, a6, a7, a8] m0 = .ok (.d (.list xs)) m1)
    (e3 : call 19 [.loc l] m1 = .ok (.d (.int s)) m2)
    (lp : forLoop [] (.nm 5) (denSs call ltB) (rngL 0 3) [S, A, some (.loc l), some (.d (.tuple xs)), some (.d (.int s)), a5, a6, a7, a8] m2 = .ok (.nx, [S, A, some (.loc l), some (.d (.tuple xs)), some (.d (.int s)), t5, t6, t7, t8]) m3) :
    denSs call lwB [S, A, a2, a3, a4, a5, a6, a7, a8] m = .ok (.nx, [S, A, some (.loc l), some (.d (.tuple xs)), some (.d (.int s)), t5, t6, t7, t8]) m3 := by
  subst hS hA
  refine seq_step (set_step (call_step (es_cons (var_step rfl) (es_cons (var_step rfl) es_nil)) e1)) ?_
  show denSs call _ [some (.d sc), some (.d at_), some (.loc l), a3, a4, a5, a6, a7, a8] m0 = _
  refine seq_step (set_step (tup_of e2)) ?_
  show denSs call _ [some (.d sc), some (.d at_), some (.loc l), some (.d (.tuple xs)), a4, a5, a6, a7, a8] m1 = _
  refine seq_step (set_step (call_step (es_cons (var_step rfl) es_nil) e3)) ?_
  show denSs call _ [some (.d sc), some (.d at_), some (.loc l), some (.d (.tuple xs)), some (.d (.int s)), a5, a6, a7, a8] m2 = _
  exact one_step (for_step (items := rngL 0 3) (src := []) (m1 := m2) (rng1_run cst_step (by decide +kernel)) lp)
def LE (sc : PyData) (env : Sl) : Prop := ∃ a1 a2 a3 a4 a5 a6 a7 a8 : Option Vl, env = [some (.d sc), a1, a2, a3, a4, a5, a6, a7, a8]
theorem turn (n : Nat) (ns : List Int) (at_ : Nat) (hat : at_ < 1000) (env : Sl) (m : Mem) (he : LE (.list (ns.map .int)) env) (hm : LD m) :
    ∃ env' m', denSs (callN T (n + 12)) lwB (env.set 1 (some (.d (.int at_)))) m = .ok (.nx, env') m' ∧ LE (.list (ns.map .int)) env' ∧ LD m' := by
  obtain ⟨a1, a2, a3, a4, a5, a6, a7, a8, rfl⟩ := he
  obtain ⟨sx, sy, e1, hx, hy, hy2⟩ := sack_run hS (n + 11) m ns at_ hat
  have k0 : Sk (m ++ [.lst [.int sx, .int sy, .int 0]]) m.length 0 := ⟨sx, sy, 0, get_last _, hx, hy, hy2, by omega, by omega⟩
  have hm0 : LD (m ++ [.lst [.int sx, .int sy, .int 0]]) := hm.appL _
  generalize hl : m.length = l at e1 k0
  generalize m ++ [Ob.lst [.int sx, .int sy, .int 0]] = m0 at e1 k0 hm0
  obtain ⟨d, m1, e2, d0, d1, s1⟩ := r_draw (n + 11) m0 l 0 6 hm0 k0 (by omega) (by omega) (by omega)
  rw [show n + 11 + 1 = n + 12 from rfl] at e1 e2
  have hW : ((1 : Int) + d).toNat ≤ 6 := by omega
  obtain ⟨r, m2, e3, rl, rw_, s2⟩ := lc_drawI (call := callN T (n + 12)) (v := 5) (x := ["turn"]) (s := .rng1 (.bin .Add (.cst (.int 1)) (.call 16 "_law_draw" (.cons (.var 2) (.cons (.cst (.int 6)) .nil))))) (e := .call 19 "_law_word" (.cons (.var 2) .nil)) (env := [some (.d (.list (ns.map .int))), some (.d (.int at_)), some (.loc l), a3, a4, a5, a6, a7, a8]) Wd 60000 m0 m1 l 1 2 (1 + d) s1.1 s1.2.2
    (rng1_run (bin_step cst_step (call_step (es_cons (var_step rfl) (es_cons cst_step es_nil)) e2) (o_add _ _)) (by unfold rngOk; rw [Bool.and_eq_true, decide_eq_true_eq, decide_eq_true_eq]; omega)) (by omega) (by omega) (by
      intro y mm kk hmm hkk hk6
      obtain ⟨i, m2, e, hi, s⟩ := r_wordD (n + 10) mm l kk hmm hkk (by omega)
      exact ⟨i, m2, call_step (es_cons (var_step rfl) es_nil) e, hi, s⟩)
  obtain ⟨s, m3, e4, hs, s3⟩ := r_wordD (n + 10) m2 l (1 + 2 * (1 + d).toNat) s2.1 s2.2.2 (by omega)
  obtain ⟨t5, t6, t7, t8, m4, e5, s4⟩ := lt_loop n (some (.d (.list (ns.map .int)))) (some (.d (.int at_))) a5 a6 a7 a8 l r s rw_ hs (by omega) m3 (1 + 2 * (1 + d).toNat + 2) s3.1 s3.2.2 (by omega)
  exact ⟨_, m4, lw_body _ _ _ a2 a3 a4 a5 a6 a7 a8 t5 t6 t7 t8 _ _ rfl rfl l (r.map .int) s m m0 m2 m3 m4 e1 e3 e4 e5, ⟨_, _, _, _, _, _, _, _, rfl⟩, s4.1⟩
/-! ### the end -/
def ltE : CSs := match f27.body with
  | .cons _ r => r
  | _ => .nil
def EA : PyData := .tuple [.str "over", .tuple [.str "at", .int 1], .tuple [.str "at", .int 0]]
def OA : PyData := .tuple [.str "minus", .tuple [.str "at", .int 0], .int 4]
def OB : PyData := .tuple [.str "over", .int 1, .int 0]
theorem tail_run (call : CallT) (m : Mem) (S a1 a2 a3 a4 a5 a6 a7 a8 : Option Vl) (M1 : PyData)
    (c1 : call 22 [.d EA, .d (.tuple [.str "at", .int 1]), .d OA] m = .ok (.d M1) m)
    (c2 : call 14 [.d M1, .d (.tuple [.int 2]), .d (.int 0)] m = .ok (.d (.int (-1))) m)
    (c3 : call 25 [.d EA, .d OB, .d (.tuple [.int 2]), .d (.int 0)] m = .ok (.d (.bool true)) m) :
    denSs call ltE [S, a1, a2, a3, a4, a5, a6, a7, a8] m = .ok (.ret (.d (.bool true)), [S, a1, a2, a3, a4, a5, some (.d EA), some (.d OA), a8]) m := by
  refine seq_step (env1 := [S, a1, a2, a3, a4, a5, some (.d EA), some (.d OA), a8]) (m1 := m) ?_ ?_
  · have k : ∀ env : Sl, denE call (.tup (.cons (.tup (.cons (.cst (.str "over")) (.cons (.tup (.cons (.cst (.str "at")) (.cons (.cst (.int 1)) .nil))) (.cons (.tup (.cons (.cst (.str "at")) (.cons (.cst (.int 0)) .nil))) .nil)))) (.cons (.tup (.cons (.cst (.str "minus")) (.cons (.tup (.cons (.cst (.str "at")) (.cons (.cst (.int 0)) .nil))) (.cons (.cst (.int 4)) .nil)))) .nil))) env m = .ok (.d (.tuple [EA, OA])) m := fun env => by
      simp only [List.map_cons, List.map_nil, List.length_cons, List.length_nil, List.replicate, List.cons_append, List.nil_append, List.getElem?_cons_zero, List.getElem?_cons_succ, List.set_cons_zero, List.set_cons_succ, Nat.reduceAdd, Nat.reduceSub, Nat.zero_add, denSs, denS, denE, denT, denTAnd, denTOr, denAnd, denOr, denEs, denO, denI, Res.bind, Res.bindN, rdd, rd, rds, dat, bol, mkL, dats, itsOf, setIx, isL, apIx, seqOf, setAll, bindT, bindTs, itsAll, Option.map_some, sz_le, Nat.reduceLeDiff, if_true, EA, OA]
    show denS call (.setT [6, 7] _) _ _ = _
    rw [denS, k]
    simp only [List.map_cons, List.map_nil, List.length_cons, List.length_nil, List.replicate, List.cons_append, List.nil_append, List.getElem?_cons_zero, List.getElem?_cons_succ, List.set_cons_zero, List.set_cons_succ, Nat.reduceAdd, Nat.reduceSub, Nat.zero_add, denSs, denS, denE, denT, denTAnd, denTOr, denAnd, denOr, denEs, denO, denI, Res.bind, Res.bindN, rdd, rd, rds, dat, bol, mkL, dats, itsOf, setIx, isL, apIx, seqOf, setAll, bindT, bindTs, itsAll, if_true]
  · refine ret_step ?_
    have k1 : ∀ env : Sl, denE call (.tup (.cons (.cst (.str "at")) (.cons (.cst (.int 1)) .nil))) env m = .ok (.d (.tuple [.str "at", .int 1])) m := fun env => by
      simp only [List.map_cons, List.map_nil, List.length_cons, List.length_nil, List.replicate, List.cons_append, List.nil_append, List.getElem?_cons_zero, List.getElem?_cons_succ, List.set_cons_zero, List.set_cons_succ, Nat.reduceAdd, Nat.reduceSub, Nat.zero_add, denSs, denS, denE, denT, denTAnd, denTOr, denAnd, denOr, denEs, denO, denI, Res.bind, Res.bindN, rdd, rd, rds, dat, bol, mkL, dats, itsOf, setIx, isL, apIx, seqOf, setAll, bindT, bindTs, itsAll, Option.map_some, sz_le, Nat.reduceLeDiff, if_true]
    have k2 : ∀ env : Sl, denE call (.tup (.cons (.cst (.int 2)) .nil)) env m = .ok (.d (.tuple [.int 2])) m := fun env => by
      simp only [List.map_cons, List.map_nil, List.length_cons, List.length_nil, List.replicate, List.cons_append, List.nil_append, List.getElem?_cons_zero, List.getElem?_cons_succ, List.set_cons_zero, List.set_cons_succ, Nat.reduceAdd, Nat.reduceSub, Nat.zero_add, denSs, denS, denE, denT, denTAnd, denTOr, denAnd, denOr, denEs, denO, denI, Res.bind, Res.bindN, rdd, rd, rds, dat, bol, mkL, dats, itsOf, setIx, isL, apIx, seqOf, setAll, bindT, bindTs, itsAll, Option.map_some, sz_le, Nat.reduceLeDiff, if_true]
    have k3 : ∀ env : Sl, denE call (.tup (.cons (.cst (.str "over")) (.cons (.cst (.int 1)) (.cons (.cst (.int 0)) .nil)))) env m = .ok (.d OB) m := fun env => by
      simp only [List.map_cons, List.map_nil, List.length_cons, List.length_nil, List.replicate, List.cons_append, List.nil_append, List.getElem?_cons_zero, List.getElem?_cons_succ, List.set_cons_zero, List.set_cons_succ, Nat.reduceAdd, Nat.reduceSub, Nat.zero_add, denSs, denS, denE, denT, denTAnd, denTOr, denAnd, denOr, denEs, denO, denI, Res.bind, Res.bindN, rdd, rd, rds, dat, bol, mkL, dats, itsOf, setIx, isL, apIx, seqOf, setAll, bindT, bindTs, itsAll, Option.map_some, sz_le, Nat.reduceLeDiff, if_true, OB]
    have x1 := call_step (call := call) (x := "_law_put") (es := .cons (.var 6) (.cons (.tup (.cons (.cst (.str "at")) (.cons (.cst (.int 1)) .nil))) (.cons (.var 7) .nil))) (env := [S, a1, a2, a3, a4, a5, some (.d EA), some (.d OA), a8]) (es_cons (var_step rfl) (es_cons (k1 _) (es_cons (var_step rfl) es_nil))) c1
    have x2 : denE call (.callD 14 "worth" (.cons (.call 22 "_law_put" (.cons (.var 6) (.cons (.tup (.cons (.cst (.str "at")) (.cons (.cst (.int 1)) .nil))) (.cons (.var 7) .nil)))) (.cons (.tup (.cons (.cst (.int 2)) .nil)) .nil)) [.int 0]) [S, a1, a2, a3, a4, a5, some (.d EA), some (.d OA), a8] m = .ok (.d (.int (-1))) m := by
      rw [denE, es_cons x1 (es_cons (k2 _) es_nil)]
      exact c2
    have x3 := cmp_step (call := call) (o := .Eq) (b := .neg (.cst (.int 1))) (y := .int (-1)) (m2 := m) (z := true) x2 (by simp only [List.map_cons, List.map_nil, List.length_cons, List.length_nil, List.replicate, List.cons_append, List.nil_append, List.getElem?_cons_zero, List.getElem?_cons_succ, List.set_cons_zero, List.set_cons_succ, Nat.reduceAdd, Nat.reduceSub, Nat.zero_add, denSs, denS, denE, denT, denTAnd, denTOr, denAnd, denOr, denEs, denO, denI, Res.bind, Res.bindN, rdd, rd, rds, dat, bol, mkL, dats, itsOf, setIx, isL, apIx, seqOf, setAll, bindT, bindTs, itsAll, Int.reduceNeg]) rfl
    have x4 := call_step (call := call) (x := "_law_put_right") (es := .cons (.var 6) (.cons (.tup (.cons (.cst (.str "over")) (.cons (.cst (.int 1)) (.cons (.cst (.int 0)) .nil)))) (.cons (.tup (.cons (.cst (.int 2)) .nil)) (.cons (.cst (.int 0)) .nil)))) (env := [S, a1, a2, a3, a4, a5, some (.d EA), some (.d OA), a8]) (es_cons (var_step rfl) (es_cons (k3 _) (es_cons (k2 _) (es_cons cst_step es_nil)))) c3
    rw [denE, denAnd, x3]
    simp only [Res.bind]
    rw [denAnd]
    exact x4
theorem law_n (n : Nat) (ns : List Int) (h : ns.length ≤ 63) : ∃ m, callN T (n + 13) 27 [.d (.list (ns.map .int))] [] = .ok (.d (.bool true)) m := by
  have hmx : ∃ top : Int, 0 ≤ top ∧ top ≤ 20 ∧ (if (if (ns.length : Int) < 20 then (ns.length : Int) else 20) > 1 then (if (ns.length : Int) < 20 then (ns.length : Int) else 20) else 1) = top :=
    ⟨_, by split <;> omega, by split <;> split <;> omega, rfl⟩
  obtain ⟨top, t0, t1, ht⟩ := hmx
  have hg : rngOk top = true := by unfold rngOk; simp; omega
  obtain ⟨env8, m8, e9, j8, k8⟩ := for_all (v := 1) (b := denSs (callN T (n + 12)) lwB) (fun env m => LE (.list (ns.map .int)) env ∧ LD m) (rngL 0 top) [some (.d (.list (ns.map .int))), none, none, none, none, none, none, none, none] [] ⟨⟨_, _, _, _, _, _, _, _, rfl⟩, LD.nil⟩ (by
    intro x hx env m ⟨he, hm⟩
    unfold rngL at hx
    obtain ⟨i, hi, rfl⟩ := List.mem_map.mp hx
    rw [List.mem_range] at hi
    obtain ⟨env', m', e, h1, h2⟩ := turn n ns i (by omega) env m he hm
    refine ⟨env', m', ?_, h1, h2⟩
    rw [show (0 : Int) + (i : Int) = i by omega]
    exact e)
  obtain ⟨a1, a2, a3, a4, a5, a6, a7, a8, rfl⟩ := j8
  have w2 : ∀ i ∈ [(2 : Int)], Wd i := fun i hi => by rw [List.mem_singleton] at hi; subst hi; exact ⟨by omega, by omega⟩
  have w0 : Wd 0 := ⟨by omega, by omega⟩
  have w1 : Wd 1 := ⟨by omega, by omega⟩
  have w4 : Wd 4 := ⟨by omega, by omega⟩
  have c1 := r_put (n + 9) (.at_ 1) (.op .minus (.at_ 0) (.num 4)) (.op .over (.at_ 1) (.at_ 0)) 2 m8 k8 (by decide) (by omega)
  have c2 := r_worth (n + 2) [2] 0 w2 w0 (.op .over (.op .minus (.at_ 0) (.num 4)) (.at_ 0)) 4 m8 k8 (by decide) ⟨⟨Nat.zero_lt_one, w4⟩, Nat.zero_lt_one⟩
  have c3 := r_pr n [2] 0 w2 w0 (by decide) (.op .over (.at_ 1) (.at_ 0)) (.op .over (.num 1) (.num 0)) m8 k8 ⟨Nat.lt_succ_self _, Nat.zero_lt_succ _⟩ ⟨w1, w0⟩ (by decide) (by decide) (by decide)
  have hv : (Ex.op Op.over (.op .minus (.at_ 0) (.num 4)) (.at_ 0)).val [2] 0 = .ok (-1) := by kernel_rfl
  rw [hv] at c2
  have hp : (Ex.op Op.over (.at_ 1) (.at_ 0)).putL (.at_ 1) (.op .minus (.at_ 0) (.num 4)) = .op .over (.op .minus (.at_ 0) (.num 4)) (.at_ 0) := by rfl
  rw [hp] at c1
  refine call_topM (f := f27) (m' := m8) k8 (Nat.zero_le _) rfl rfl rfl ?_
  have hh := tail_run (callN T (n + 12)) m8 (some (.d (.list (ns.map .int)))) a1 a2 a3 a4 a5 a6 a7 a8 _ c1 c2 c3
  clear c1 c2 c3
  show retOf (denSs (callN T (n + 12)) f27.body [some (.d (.list (ns.map .int))), none, none, none, none, none, none, none, none] []) = _
  generalize callN T (n + 12) = call at e9 hh ⊢
  have h0 : denI call (.rng1 (.bi .max2 (.cons (.cst (.int 1)) (.cons (.bi .min2 (.cons (.cst (.int 20)) (.cons (.bi .len (.cons (.var 0) .nil)) .nil))) .nil)))) [some (.d (.list (ns.map .int))), none, none, none, none, none, none, none, none] [] = .ok ⟨rngL 0 top, []⟩ [] := by
    refine rng1_run (m1 := []) ?_ hg
    simp only [List.map_cons, List.map_nil, List.length_cons, List.length_nil, List.replicate, List.cons_append, List.nil_append, List.getElem?_cons_zero, List.getElem?_cons_succ, List.set_cons_zero, List.set_cons_succ, Nat.reduceAdd, Nat.reduceSub, Nat.zero_add, denSs, denS, denE, denT, denTAnd, denTOr, denAnd, denOr, denEs, denO, denI, Res.bind, Res.bindN, rdd, rd, rds, dat, bol, mkL, dats, itsOf, setIx, isL, apIx, seqOf, setAll, bindT, bindTs, itsAll, p_int_n, p_int_b, p_int_i, p_int_s, p_int_l, p_int_t, p_int_d, p_bool_n, p_bool_b, p_bool_i, p_bool_s, p_bool_l, p_bool_t, p_bool_d, p_tuple_n, p_tuple_b, p_tuple_i, p_tuple_s, p_tuple_l, p_tuple_t, p_tuple_d, p_list_n, p_list_b, p_list_i, p_list_s, p_list_l, p_list_t, p_list_d, p_str_n, p_str_b, p_str_i, p_str_s, p_str_l, p_str_t, p_str_d, p_dict_n, p_dict_b, p_dict_i, p_dict_s, p_dict_l, p_dict_t, p_dict_d, Bool.true_or, Bool.or_true, Bool.false_or, Bool.or_false, Bool.true_and, Bool.and_true, Bool.false_and, Bool.and_false, Bool.not_true, Bool.not_false, o_len_l, o_len_t, o_abs, o_max, o_min, o_int, o_intb, o_tup_l, o_tup_t, o_list_l, o_list_t, o_all, o_any, o_divmod, o_max1, o_min1, o_sum1, o_str, o_strs, o_add, o_add_l, o_add_t, o_sub, o_mul, o_mul_l, o_mul_t, o_div, o_mod, o_pow, o_lt, o_le, o_gt, o_ge, o_eq, o_ne, o_nes, o_eqs, o_eqb, o_tn, o_tb, o_ti, o_tl, o_tt, o_ixl, o_ixt, o_sll, o_slt, if_true, if_false, decide_true, decide_false, retOf, Option.map_some, Bool.false_eq_true, List.length_map, ht]
  refine Eq.trans (congrArg retOf (seq_step (for_step h0 e9) hh)) rfl
theorem law_true (ns : List Int) (h : ns.length ≤ 63) : ∃ m, callN T depth 27 [.d (.list (ns.map .int))] [] = .ok (.d (.bool true)) m := law_n 27 ns h
theorem facts {P : Program} {w : World} {K : PySem.W.Frag} {h : Heap} {mg : Str → Option Value} {f : Addr} (X : K.In h) (G : h.Ns mainGlobals mg) (hfa : mg ("law" : Str) = some (.ref f)) (cx : He.SaysX fa dd ts tf exB w h K) :
    ∃ fd : FuncData, (∀ (s : Shared) (v : Value), BindsTo s fd ⟨[v], []⟩ [("script", v)]) ∧ ∀ base : Heap, SysD base → FnP P w K mg base (L2.CX P w) depth f fd ["script"] (spN K mg T depth 27 1) := by
  have c := cx.t.d
  have more : (cls.all (fun x => clsA K x) && (exm.all (fun p => emB K p) && (cls0.all (fun x => clsB K x) && (xclA K && tfA K)))) = true := cx.more
  have m1 := (Bool.and_eq_true_iff.mp more).2
  have m2 := (Bool.and_eq_true_iff.mp m1).2
  have m3 := (Bool.and_eq_true_iff.mp m2).2
  have xcO0 := (show xclA K = true from (Bool.and_eq_true_iff.mp m3).1)
  have tfO := (show tfA K = true from (Bool.and_eq_true_iff.mp m3).2)
  have hcl : ∀ x ∈ cls, ClsOk K mg x := fun x hx => says_clsA X G (List.all_eq_true.mp (Bool.and_eq_true_iff.mp more).1 x hx)
  have hem : ∀ x y b, (x, y, b) ∈ exm → EmOk K mg x y b := fun x y b hx => says_em X G (List.all_eq_true.mp (Bool.and_eq_true_iff.mp m1).1 (x, y, b) hx)
  have hc0 : ∀ x ∈ cls0, ClsN K mg x := fun x hx => says_cls X G (List.all_eq_true.mp (Bool.and_eq_true_iff.mp m2).1 x hx)
  have htb : ∀ x ks, (x, ks) ∈ tbs → ∃ d es n, mg x = some (.ref d) ∧ KDict K w d es n ∧ ∀ z, ∃ r, PySem.W.nsIn K d z = some r ∧ r.isSome = ks.contains z := by
    have e : ts.map (fun t => He.dicW K (t.1 K)) = ts.map (fun t => some (He.keysIn w.params t.2)) := congrArg (fun z : He.AlT => z.2) cx.t
    intro x ks hx
    have e0 : He.dicW K (He.ga K "OPS") = some (He.keysIn w.params ["plus", "minus", "times", "over", "rest", "less", "same"]) := by
      have := congrArg (fun l => l[0]?) e
      exact Option.some.inj this
    simp only [tbs, List.mem_cons, List.not_mem_nil, or_false, Prod.mk.injEq] at hx
    rcases hx with ⟨rfl, rfl⟩
    · exact says_tb X G c (by decide +kernel) e0
  have e : ts.map (fun t => He.dicW K (t.1 K)) = ts.map (fun t => some (He.keysIn w.params t.2)) := congrArg (fun z : He.AlT => z.2) cx.t
  have htf : ∀ x tb, (x, tb) ∈ tfs → ∃ dk es n, mg x = some (.ref dk) ∧ KDict K w dk es n ∧ ∀ z g, tb.lookup z = some g → ∃ y m a, (T.map fun f => (f.name, f.ps, f.kw))[g]? = some (y, m, []) ∧ mg y = some (.ref a) ∧ PySem.W.nsIn K dk z = some (some (.ref a)) := by
    intro x tb hx
    have e1 : He.dicW K (He.ga K "OPS") = some (He.keysIn w.params ["plus", "minus", "times", "over", "rest", "less", "same"]) := by
      have := congrArg (fun l => l[1]?) e
      exact Option.some.inj this
    simp only [tfs, List.mem_cons, List.not_mem_nil, or_false, Prod.mk.injEq] at hx
    rcases hx with ⟨rfl, rfl⟩
    · exact says_tf X G c (ys := ysOPS) (by decide +kernel) e1 tfO (by decide +kernel)
  have hxc : ∀ (base : Heap) x f, (x, f) ∈ xcl → ClsX P w K mg base x f := by
    intro base x f hx
    simp only [xcl, List.mem_cons, List.not_mem_nil, or_false, Prod.mk.injEq] at hx
    rcases hx with ⟨rfl, rfl⟩
    · obtain ⟨fdx, Fx⟩ := c.def_ 28 rfl
      exact says_x baseAE X G xcO0 Fx (N := ["self", "word"]) ⟨rfl, rfl, rfl, by decide +kernel, rfl, by decide +kernel, by decide +kernel⟩ (by decide +kernel) (by decide +kernel) (Fx.bindsN (fun _ _ _ _ _ _ us hl => match us, hl with | [_, _], _ => rfl)) base

  have un := says_free X G c (xs := bnames) (fun x hx => List.mem_append_left _ (List.mem_append_left _ (List.mem_map_of_mem hx)))
  have all := fnAt X G c
  obtain ⟨fd, F⟩ := c.def_ 27 rfl
  have e := hfa.symm.trans (says_glo X G c (x := "law") (by decide +kernel))
  cases e
  have b := FunD.bindsA (ps := ["script"]) F fun _ _ _ _ _ _ us hl => match us, hl with | [_], _ => rfl
  exact ⟨fd, fun s v => b s [v] rfl, fun base hsd => fn_all hcl hem hsd htb (by decide) hc0 (hxc base) htf (fun h => absurd rfl h) (fun h => absurd rfl h) un (says_gk X G c (gks := gks) (by decide +kernel)) all depth 27 f27 rfl _ fd ["script"] _ _ _ _ _ hfa F ok27 (fun h => by cases h)⟩
end K04
open PySem PySem.W PySem.Calls PyProof.Rows
theorem PySem.Challenge.cw_rowhaul_k04_whole_one_in_the_place_of_an_holds : PySem.Challenge.rw_rowhaul_k04_whole_one_in_the_place_of_an.Holds := by
  w_on; o_law
  refine HandSHeadRun.head_any (r := OpenLaw.row PySem.Challenge.rw_rowhaul_k04_whole_one_in_the_place_of_an) (q := view (OpenLaw.row PySem.Challenge.rw_rowhaul_k04_whole_one_in_the_place_of_an).prog [37]) (H := K04.hk) (ob := K04.ob) (M := 4000) (loose := [("__name__" : Str), ("RowsError" : Str), ("NoNumber" : Str), ("Falls" : Str), ("GREATEST" : Str), ("MOST_COLUMNS" : Str), ("MOST_OPS" : Str), ("OPS" : Str), ("is_whole" : Str), ("is_between" : Str), ("need_between" : Str), ("is_word" : Str), ("plus_by" : Str), ("minus_by" : Str), ("times_by" : Str), ("over_by" : Str), ("rest_by" : Str), ("less_by" : Str), ("same_by" : Str), ("is_expr_by" : Str), ("is_expr" : Str), ("worth_in" : Str), ("worth" : Str), ("_law_sack" : Str), ("_law_draw" : Str), ("_law_leaf" : Str), ("_law_expr" : Str), ("_law_word" : Str), ("_law_met" : Str), ("_law_has" : Str), ("_law_put" : Str), ("_law_turned" : Str), ("_law_bare" : Str), ("_law_put_right" : Str), ("_law_others_right" : Str)]) (d := HandSHeadRun.topDef (OpenLaw.row PySem.Challenge.rw_rowhaul_k04_whole_one_in_the_place_of_an).prog 37) (kwd := []) K04.ob_eq
    (by kernel_rfl) (fun s => by kernel_rfl) K04.run (by kernel_rfl) (by kernel_rfl) (by kernel_rfl) (by rfl) (by first | assumption | decide +kernel) (by decide +kernel) ⟨rfl, rfl, rfl, rfl, rfl, by decide +kernel⟩ ?hw ?hc
  case hw => w_witness2
  case hc =>
    refine Ev.walkP (l := PySem.Challenge.rw_rowhaul_k04_whole_one_in_the_place_of_an) (n := 63) (k := K04.depth) (x := "script") rfl (by decide) (by kernel_rfl) ⟨rfl, by decide, by decide⟩ ?F
    intro w mg fa h Y G hmg0
    obtain ⟨⟨K, KX, c⟩, hsd⟩ := Y
    have hmg : mg ("law" : PySem.Str) = some (.ref fa) := by
      have e : (HandSHeadRun.topDef (OpenLaw.row PySem.Challenge.rw_rowhaul_k04_whole_one_in_the_place_of_an).prog 37).name = ("law" : PySem.Str) := by kernel_rfl
      rw [← e]
      exact hmg0
    obtain ⟨fd, hb, hF⟩ := K04.facts (P := (PySem.Challenge.rw_rowhaul_k04_whole_one_in_the_place_of_an).prog) (w := w) KX G hmg c
    exact ⟨K, fd, _, KX, hb, fun H a ns hl sq => Ev.law_sp (K04.law_true ns hl) sq, hsd, hF⟩


