import PyProof.Rows.All
import Wide.All
import OpenK.AllK
import Wide.FinOn
import HandS.ForMost
import HandS.ForExc
import HandS.Lambda
import HandS.Wide
import HandS.WideBits
import HandS.TupAny
import HandS.Deep
import HandS.Style
import HandS.Text
import HandS.Flow
import HandS.IsInst
import HandS.ExcField
import HandS.Gcd
import HandS.Defaults
import HandS.Iter
import HandS.Zip
import HandS.WideMore
import HandS.TryMany
import HandS.ExcSuper
import HandS.ExcInit
import HandS.ClsMeth
import HandS.HeadHook4
import HandS.HeadWalk
import HandS.Head0
import HandS.Head1
import HandS.Head2
import PySem.Challenge.RW_kinstretches_k21_whole_the_way_round
set_option Elab.async false
section
set_option Elab.async false
set_option linter.all false
/-! Mi: a small language of its own (slots for names, values as trees, a small heap) and its interpreter. -/
namespace Mi
abbrev Str := PySem.Str
/-- a name: its number in the program's list of names -/
abbrev Nm := Nat

inductive Lit where
  | non | bl (b : Bool) | int (i : Int) | str (s : Str)
inductive BOp where
  | add | sub | mul | fdiv | mod | pow | shl | shr
inductive COp where
  | eq | ne | lt | le | gt | ge | is | isnot | isin | notin
inductive Bi where
  | len | abs | min | max | int | str | tuple | list | sum | any | all | sorted | gcd
inductive Me where
  | append | pop | insert | join | split | replace | get | index | count
/-- a class that isinstance names -/
inductive CN where
  | int | bool | str | list | tuple | own (c : Nm)

/-- a target of a for, a comprehension: a name, a tuple of targets -/
inductive Pt where
  | var (i : Nat)
  | tup (ts : List Pt)

mutual
inductive Ex where
  | var (i : Nat)
  | lit (c : Lit)
  | glo (x : Nm)
  | bin (op : BOp) (a b : Ex)
  | neg (a : Ex)
  | not (a : Ex)
  | cmp (a : Ex) (r : List Cr)
  | and (es : List Ex)
  | or (es : List Ex)
  | ite (c a b : Ex)
  | ix (a i : Ex)
  | sl (a : Ex) (lo hi : Option Ex)
  | tup (es : List Ex)
  | lst (es : List Ex)
  | fld (a : Ex) (f : Nm)
  | call (x : Nm) (as : List Ag)
  | callK (x : Nm) (as : List Ex)
  | app (i : Nat) (as : List Ag)
  | make (c : Nm) (as : List Ex)
  | meth (a : Ex) (m : Nm) (as : List Ex)
  | bi (b : Bi) (as : List Ex)
  | me (m : Me) (a : Ex) (as : List Ex)
  | isi (a : Ex) (cs : List CN)
  | comp (own : List Nat) (k : Gn)
  | lm (n : Nat) (ps : List Nat) (b : Ex)
  | lsO (it : Ir)
  | tpO (it : Ir)
/-- one more comparison of a chain -/
inductive Cr where
  | mk (op : COp) (b : Ex)
/-- an argument: an expression, a lambda that captures names -/
inductive Ag where
  | ex (e : Ex)
  | lam (ps : List Nat) (b : Ex)
/-- a comprehension's fors, then its element -/
inductive Gn where
  | elt (e : Ex)
  | loop (t : Pt) (it : Ir) (ifs : List Ex) (k : Gn)
/-- what is walked -/
inductive Ir where
  | val (e : Ex)
  | range (es : List Ex)
  | enum (e : Ex)
  | zip (a b : Ex)
  | rev (e : Ex)
end

inductive Tg where
  | var (i : Nat)
  | tup (ts : List Tg)
  | sub (a i : Ex)
  | fld (a : Ex) (f : Nm)

inductive St where
  | asg (t : Tg) (e : Ex)
  | augV (i : Nat) (op : BOp) (e : Ex)
  | augF (a : Ex) (f : Nm) (op : BOp) (e : Ex)
  | augS (a i : Ex) (op : BOp) (e : Ex)
  | ret (e : Option Ex)
  | ex (e : Ex)
  | ifs (c : Ex) (a b : List St)
  | for (t : Pt) (it : Ir) (b : List St)
  | whl (c : Ex) (b : List St)
  | rse (c : Nm) (as : List Ex)
  | try (b : List St) (hs : List (Nm × Option Nat × List St))
  | pass | brk | cnt

/-- values -/
inductive Val where
  | non | bl (b : Bool) | int (i : Int) | str (s : Str)
  | tup (xs : List Val)
  | rl (xs : List Val)
  | ref (n : Nat)
  | glo (x : Nm)
  | lm (n : Nat) (ps : List Nat) (b : Ex)
  | clo (ps : List Nat) (b : Ex) (σ : List (Option Val))
  | exv (c : Nm) (fs : List (Nm × Val))
/-- what stands in the small heap -/
inductive Ob where
  | lst (xs : List Val)
  | dct (kvs : List (Val × Val))
  | ins (c : Nm) (fs : List (Nm × Val))
abbrev Mem := List Ob
abbrev Sl := List (Option Val)
/-- an exception: its class, its attributes -/
structure Exc where
  cls : Nm
  fs : List (Nm × Val)

inductive R (α : Type) where
  | ok (a : α) (M : Mem)
  | exc (x : Exc) (M : Mem)
  | err
/-- a statement's end -/
inductive Fl where
  | nx (σ : Sl) (M : Mem)
  | rt (v : Val) (σ : Sl) (M : Mem)
  | bk (σ : Sl) (M : Mem)
  | ct (σ : Sl) (M : Mem)
  | exc (x : Exc) (σ : Sl) (M : Mem)
  | err

@[reducible] def R.bind {α β : Type} (r : R α) (f : α → Mem → R β) : R β :=
  match r with
  | .ok a M => f a M
  | .exc x M => .exc x M
  | .err => .err

/-- whom is called: a def of the module, a method of a class, a closure -/
inductive Callee where
  | fn (x : Nm)
  | mt (c m : Nm)
  | clo (ps : List Nat) (b : Ex) (σ : Sl)
abbrev Oracle := Callee → List Val → Mem → R Val

/-- the program's facts that the interpreter asks -/
structure Env where
  con : Nm → Option Val
  isFn : Nm → Bool
  excFs : Nm → Option (List Nm)
  mro : Nm → List Nm
  init : Nm
  isCls : Nm → Bool
  isFld : Nm → Bool
  isMt : Nm → Nm → Bool

def Val.isD : Val → Bool
  | .clo _ _ _ => false
  | .exv _ _ => false
  | _ => true
end Mi
end
section
set_option Elab.async false
set_option linter.all false
namespace Mi
open PySem (PyData)

/-! ### values looked at -/
def optAll {α β : Type} (f : α → Option β) : List α → Option (List β)
  | [] => some []
  | x :: xs => match f x with
    | none => none
    | some y => match optAll f xs with
      | none => none
      | some ys => some (y :: ys)
/-- a value as data, lists and tuples within -/
def vdata (M : Mem) : Nat → Val → Option PyData
  | 0, _ => none
  | f + 1, v => match v with
    | .non => some .none
    | .bl b => some (.bool b)
    | .int i => some (.int i)
    | .str s => some (.str s)
    | .tup xs => match optAll (vdata M f) xs with
      | some ds => some (.tuple ds)
      | none => none
    | .rl xs => match optAll (vdata M f) xs with
      | some ds => some (.list ds)
      | none => none
    | .ref n => match M[n]? with
      | some (.lst xs) => match optAll (vdata M f) xs with
        | some ds => some (.list ds)
        | none => none
      | _ => none
    | _ => none
def vEq (M : Mem) (x y : Val) : Option Bool :=
  match x, y with
  | .str a, .str b => some (decide (a = b))
  | x, y => match vdata M 60 x, vdata M 60 y with
    | some d, some e => match d.canLay0 && e.canLay0 with
      | true => some (PyData.eqv d e)
      | false => none
    | _, _ => none
def lineN : Nat := 16000000
def truthy (M : Mem) : Val → Option Bool
  | .non => some false
  | .bl b => some b
  | .int i => some (i != 0)
  | .str s => match decide (s.length ≤ lineN) with
    | true => some (s.length != 0)
    | false => none
  | .tup xs => some (!xs.isEmpty)
  | .rl xs => some (!xs.isEmpty)
  | .ref n => match M[n]? with
    | some (.lst xs) => some (!xs.isEmpty)
    | some (.dct kvs) => some (!kvs.isEmpty)
    | _ => none
  | _ => none
/-- a list that may be read -/
def lsOf (M : Mem) (n : Nat) : Option (List Val) :=
  match M[n]? with
  | some (.lst xs) => some xs
  | _ => none
/-- a list or a tuple as its items -/
def sqOf (M : Mem) : Val → Option (List Val)
  | .tup xs => some xs
  | .rl xs => some xs
  | .ref n => lsOf M n
  | _ => none
/-- a list as its items -/
def lsq (M : Mem) : Val → Option (List Val)
  | .rl xs => some xs
  | .ref n => lsOf M n
  | _ => none
def intsOf : List Val → Option (List Int)
  | [] => some []
  | .int i :: r => match intsOf r with
    | some is => some (i :: is)
    | none => none
  | _ :: _ => none
def blsOf : List Val → Option (List Bool)
  | [] => some []
  | .bl i :: r => match blsOf r with
    | some is => some (i :: is)
    | none => none
  | _ :: _ => none
def strsOf : List Val → Option (List Str)
  | [] => some []
  | .str i :: r => match strsOf r with
    | some is => some (i :: is)
    | none => none
  | _ :: _ => none
def allD : List Val → Bool
  | [] => true
  | v :: vs => v.isD && allD vs

def okO {α : Type} (M : Mem) : Option α → R α
  | some a => .ok a M
  | none => .err

/-! ### operators -/
def mulOk (i j : Int) : Bool := decide (i.natAbs.log2 + j.natAbs.log2 < 100000000)
def divOk (j : Int) : Bool := decide (0 < j) && decide (j.natAbs.log2 < 9000)
def powOk (i j : Int) : Bool := decide (0 ≤ j) && decide (j ≤ 1000000) && decide (i.natAbs < 18446744073709551616)
def binop (op : BOp) (x y : Val) (M : Mem) : R Val :=
  match op with
  | .add => match x, y with
    | .int i, .int j => .ok (.int (i + j)) M
    | .str a, .str b => match decide (a.length + b.length ≤ lineN) with
      | true => .ok (.str (a ++ b)) M
      | false => .err
    | .tup xs, .tup ys => match decide (xs.length + ys.length ≤ lineN) with
      | true => .ok (.tup (xs ++ ys)) M
      | false => .err
    | .ref a, .ref b => match lsOf M a, lsOf M b with
      | some xs, some ys => match decide (xs.length + ys.length ≤ lineN) with
        | true => .ok (.ref M.length) (M ++ [.lst (xs ++ ys)])
        | false => .err
      | _, _ => .err
    | _, _ => .err
  | .sub => match x, y with
    | .int i, .int j => .ok (.int (i - j)) M
    | _, _ => .err
  | .mul => match x, y with
    | .int i, .int j => match mulOk i j with
      | true => .ok (.int (i * j)) M
      | false => .err
    | _, _ => .err
  | .fdiv => match x, y with
    | .int i, .int j => match divOk j with
      | true => .ok (.int (i / j)) M
      | false => .err
    | _, _ => .err
  | .mod => match x, y with
    | .int i, .int j => match decide (0 < j) with
      | true => .ok (.int (i % j)) M
      | false => .err
    | _, _ => .err
  | .pow => match x, y with
    | .int i, .int j => match powOk i j with
      | true => .ok (.int (i ^ j.toNat)) M
      | false => .err
    | _, _ => .err
  | .shl => .err
  | .shr => .err
def item (M : Mem) (a i : Val) : Option Val :=
  match a, i with
  | .str s, .int i => match decide (s.length ≤ lineN) with
    | true => match L2.atI s.cps.toList i with
      | some c => some (.str ⟨#[c]⟩)
      | none => none
    | false => none
  | .tup xs, .int i => L2.atI xs i
  | .rl xs, .int i => L2.atI xs i
  | .ref n, .int i => match lsOf M n with
    | some xs => L2.atI xs i
    | none => none
  | _, _ => none
def cut {α : Type} (xs : List α) (lo hi : Option Int) : List α :=
  (xs.drop (HT.sIx xs.length 0 lo)).take (HT.sIx xs.length xs.length hi - HT.sIx xs.length 0 lo)
def slice (a : Val) (lo hi : Option Int) (M : Mem) : R Val :=
  match a with
  | .str s => match decide (s.length ≤ lineN) with
    | true => .ok (.str (L2.cutS s lo hi)) M
    | false => .err
  | .tup xs => .ok (.tup (cut xs lo hi)) M
  | .rl xs => .ok (.ref M.length) (M ++ [.lst (cut xs lo hi)])
  | .ref n => match lsOf M n with
    | some xs => .ok (.ref M.length) (M ++ [.lst (cut xs lo hi)])
    | none => .err
  | _ => .err
def isV (x y : Val) : Option Bool :=
  match y with
  | .non => match x with
    | .non => some true
    | _ => some false
  | .bl b => match x with
    | .bl c => some (b == c)
    | .non => some false
    | .int _ => some false
    | .str _ => some false
    | .tup _ => some false
    | .rl _ => some false
    | .ref _ => some false
    | _ => none
  | _ => none
/-- the items of a list or tuple as data -/
def datas : Option PyData → Option (List PyData)
  | some (.list ds) => some ds
  | some (.tuple ds) => some ds
  | _ => none
def isIn (M : Mem) (x y : Val) : Option Bool :=
  match y with
  | .str t => match x with
    | .str s => some (!(PySem.Builtin.Str.occurrences t s 0 t.length 1).isEmpty)
    | _ => none
  | y => match vdata M 60 x, datas (vdata M 60 y) with
    | some d, some ds => match d.canLay0 && PyData.canLayAll0 ds with
      | true => some (ds.any fun z => PyData.eqv z d)
      | false => none
    | _, _ => none
def ltS (a b : Str) : Bool := decide (a.cps.toList < b.cps.toList)
def cmpop (op : COp) (x y : Val) (M : Mem) : Option Bool :=
  match op with
  | .eq => vEq M x y
  | .ne => match vEq M x y with
    | some b => some (!b)
    | none => none
  | .lt => match x, y with
    | .int i, .int j => some (decide (i < j))
    | .str a, .str b => some (ltS a b)
    | _, _ => none
  | .le => match x, y with
    | .int i, .int j => some (decide (i ≤ j))
    | .str a, .str b => some (!ltS b a)
    | _, _ => none
  | .gt => match x, y with
    | .int i, .int j => some (decide (j < i))
    | .str a, .str b => some (ltS b a)
    | _, _ => none
  | .ge => match x, y with
    | .int i, .int j => some (decide (j ≤ i))
    | .str a, .str b => some (!ltS a b)
    | _, _ => none
  | .is => isV x y
  | .isnot => match isV x y with
    | some b => some (!b)
    | none => none
  | .isin => isIn M x y
  | .notin => match isIn M x y with
    | some b => some (!b)
    | none => none

/-! ### isinstance -/
def isCN (M : Mem) (c : CN) (v : Val) : Option Bool :=
  match v with
  | .non => some false
  | .bl _ => some (match c with | .int => true | .bool => true | _ => false)
  | .int _ => some (match c with | .int => true | _ => false)
  | .str _ => some (match c with | .str => true | _ => false)
  | .tup _ => some (match c with | .tuple => true | _ => false)
  | .rl _ => some (match c with | .list => true | _ => false)
  | .ref n => match M[n]? with
    | some (.lst _) => some (match c with | .list => true | _ => false)
    | some (.ins d _) => some (match c with | .own e => decide (d = e) | _ => false)
    | _ => none
  | _ => none
def isAny (M : Mem) (v : Val) : List CN → Option Bool
  | [] => some false
  | c :: cs => match isCN M c v with
    | some true => some true
    | some false => isAny M v cs
    | none => none

/-! ### built-in functions and methods -/
def minI (i j : Int) : Int := if j < i then j else i
def maxI (i j : Int) : Int := if j > i then j else i
def bi (b : Bi) (vs : List Val) (M : Mem) : R Val :=
  match b with
  | .len => match vs with
    | [.str s] => match decide (s.length ≤ lineN) with
      | true => .ok (.int s.length) M
      | false => .err
    | [.tup xs] => .ok (.int xs.length) M
    | [.rl xs] => .ok (.int xs.length) M
    | [.ref n] => match lsOf M n with
      | some xs => .ok (.int xs.length) M
      | none => .err
    | _ => .err
  | .abs => match vs with
    | [.int i] => .ok (.int (if i < 0 then -i else i)) M
    | _ => .err
  | .min => match vs with
    | [.int i, .int j] => .ok (.int (minI i j)) M
    | [a] => match lsq M a with
      | some xs => match intsOf xs with
        | some (i :: is) => .ok (.int (is.foldl minI i)) M
        | _ => .err
      | none => .err
    | _ => .err
  | .max => match vs with
    | [.int i, .int j] => .ok (.int (maxI i j)) M
    | [a] => match lsq M a with
      | some xs => match intsOf xs with
        | some (i :: is) => .ok (.int (is.foldl maxI i)) M
        | _ => .err
      | none => .err
    | _ => .err
  | .int => match vs with
    | [.int i] => .ok (.int i) M
    | [.bl k] => .ok (.int (if k then 1 else 0)) M
    | [.str s] => match decide (s.length ≤ 640) with
      | true => match PySem.intText? s with
        | some n => .ok (.int n) M
        | none => .err
      | false => .err
    | _ => .err
  | .str => match vs with
    | [.int i] => match decide (i.natAbs.log2 < 1920) with
      | true => .ok (.str (toString i)) M
      | false => .err
    | _ => .err
  | .tuple => match vs with
    | [.tup xs] => .ok (.tup xs) M
    | [.rl xs] => .ok (.tup xs) M
    | [.ref n] => match lsOf M n with
      | some xs => .ok (.tup xs) M
      | none => .err
    | _ => .err
  | .list => match vs with
    | [a] => match sqOf M a with
      | some xs => .ok (.ref M.length) (M ++ [.lst xs])
      | none => .err
    | _ => .err
  | .sum => match vs with
    | [a] => match lsq M a with
      | some xs => match intsOf xs with
        | some is => .ok (.int is.sum) M
        | none => .err
      | none => .err
    | _ => .err
  | .any => match vs with
    | [a] => match lsq M a with
      | some xs => match blsOf xs with
        | some bs => .ok (.bl (bs.any id)) M
        | none => .err
      | none => .err
    | _ => .err
  | .all => match vs with
    | [a] => match lsq M a with
      | some xs => match blsOf xs with
        | some bs => .ok (.bl (bs.all id)) M
        | none => .err
      | none => .err
    | _ => .err
  | .sorted => .err
  | .gcd => .err
def me (m : Me) (a : Val) (vs : List Val) (M : Mem) : R Val :=
  match m with
  | .append => match a, vs with
    | .ref n, [v] => match M[n]? with
      | some (.lst xs) => match v.isD && decide (xs.length < lineN) with
        | true => .ok .non (M.set n (.lst (xs ++ [v])))
        | false => .err
      | _ => .err
    | _, _ => .err
  | _ => .err
/-- whose method it is -/
def meRecv (m : Me) (x : Val) (M : Mem) : Bool :=
  match m with
  | .append => match x with
    | .ref n => match M[n]? with
      | some (.lst _) => true
      | _ => false
    | _ => false
  | _ => false

/-! ### what is walked -/
inductive It where
  | ls (n : Nat)
  | sq (vs : List Val)
  | rng (lo step : Int) (n : Nat)
  | enum (I : It)
  | zip (I J : It)
/-- the i-th item; some none: there is none any more; none: no walk -/
def It.item (M : Mem) : It → Nat → Option (Option Val)
  | .ls n, i => match lsOf M n with
    | some xs => some xs[i]?
    | none => none
  | .sq vs, i => some vs[i]?
  | .rng lo st n, i => match decide (i < n) with
    | true => some (some (.int (lo + i * st)))
    | false => some none
  | .enum I, i => match I.item M i with
    | some (some v) => some (some (.tup [.int i, v]))
    | some none => some none
    | none => none
  | .zip I J, i => match I.item M i with
    | none => none
    | some ov => match J.item M i with
      | none => none
      | some ow => match ov with
        | none => some none
        | some v => match ow with
          | none => some none
          | some w => some (some (.tup [v, w]))
def itOf (M : Mem) : Val → Option It
  | .tup xs => some (.sq xs)
  | .rl xs => some (.sq xs)
  | .ref n => match lsOf M n with
    | some _ => some (.ls n)
    | none => none
  | .str s => match decide (s.length ≤ lineN) with
    | true => some (.sq (s.cps.toList.map fun c => .str ⟨#[c]⟩))
    | false => none
  | _ => none
/-- a list, to be walked -/
def lsIt (M : Mem) : Val → Option It
  | .rl xs => some (.sq xs)
  | .ref n => match lsOf M n with
    | some _ => some (.ls n)
    | none => none
  | _ => none
def zipIt (M : Mem) (v w : Val) : R It :=
  match v with
  | .tup xs => match w with
    | .tup ys => .ok (.zip (.sq xs) (.sq ys)) M
    | _ => .err
  | v => match lsIt M v with
    | some I => match lsIt M w with
      | some J => .ok (.zip I J) M
      | none => .err
    | none => .err
def rngOk (i : Int) : Bool := decide (-4611686018427387904 ≤ i) && decide (i < 4611686018427387904)
def rngOf : List Val → Option It
  | [.int b] => match rngOk b with
    | true => some (.rng 0 1 b.toNat)
    | false => none
  | [.int a, .int b] => match rngOk a && rngOk b with
    | true => some (.rng a 1 (b - a).toNat)
    | false => none
  | _ => none

mutual
/-- a target takes a value -/
def Pt.put : Pt → Val → Sl → Option Sl
  | .var i, v, σ => some (σ.set i (some v))
  | .tup ts, v, σ => match v with
    | .tup xs => Pt.puts ts xs σ
    | _ => none
def Pt.puts : List Pt → List Val → Sl → Option Sl
  | [], [], σ => some σ
  | t :: ts, v :: vs, σ => match Pt.put t v σ with
    | some σ1 => Pt.puts ts vs σ1
    | none => none
  | _, _, _ => none
end
mutual
/-- the slots of a target -/
def Pt.slots : Pt → List Nat
  | .var i => [i]
  | .tup ts => Pt.slotss ts
def Pt.slotss : List Pt → List Nat
  | [] => []
  | t :: ts => Pt.slots t ++ Pt.slotss ts
end
def Gn.slots : Gn → List Nat
  | .elt _ => []
  | .loop t _ _ _ => t.slots
def wipe (σ : Sl) : List Nat → Sl
  | [] => σ
  | v :: vs => (wipe σ vs).set v none
def fuel : Nat := 100000000000000000000000000000000000000000000000000000000000000000000000000000000000000000000000000000000000000000000000000000000000000000000000000000000000000000000000000000000000000000000000000000000

/-- a comprehension's walk: what is made so far -/
def compW (I : It) (t : Pt) (σ : Sl) (turn : Sl → List Val → Mem → R (List Val)) : Nat → Nat → List Val → Mem → R (List Val)
  | 0, _, _, _ => .err
  | f + 1, i, acc, M => match I.item M i with
    | none => .err
    | some none => .ok acc M
    | some (some v) => match t.put v σ with
      | none => .err
      | some σ1 => match turn σ1 acc M with
        | .ok acc1 M1 => compW I t σ turn f (i + 1) acc1 M1
        | _ => .err
/-- a class that may be asked for -/
def ownOk (P : Env) : CN → Bool
  | .own c => P.isCls c
  | _ => true
def nodata {α : Type} (vs : List Val) (r : R α) : R α := match allD vs with
  | true => r
  | false => .err
def Val.isX : Val → Bool
  | .exv _ _ => true
  | _ => false
/-- no handled exception stands in these slots -/
def noXs (σ : Sl) : Bool := σ.all fun o => match o with
  | some v => !v.isX
  | none => true
/-- no exception stands in a closure's slots -/
def cloX : Val → Bool
  | .clo _ _ σ => noXs σ
  | v => !v.isX
def cloXs : List Val → Bool
  | [] => true
  | v :: vs => cloX v && cloXs vs
mutual
def ev (P : Env) (o : Oracle) : Ex → Sl → Mem → R Val
  | .var i, σ, M => match σ[i]? with
    | some (some v) => .ok v M
    | _ => .err
  | .lit c, _, M => match c with
    | .non => .ok .non M
    | .bl b => .ok (.bl b) M
    | .int i => .ok (.int i) M
    | .str s => .ok (.str s) M
  | .glo x, _, M => match P.con x with
    | some v => .ok v M
    | none => match P.isFn x with
      | true => .ok (.glo x) M
      | false => .err
  | .bin op a b, σ, M => (ev P o a σ M).bind fun x M => (ev P o b σ M).bind fun y M => binop op x y M
  | .neg a, σ, M => (ev P o a σ M).bind fun x M => match x with
    | .int i => .ok (.int (-i)) M
    | _ => .err
  | .not a, σ, M => (ev P o a σ M).bind fun x M => match truthy M x with
    | some b => .ok (.bl (!b)) M
    | none => .err
  | .cmp a r, σ, M => (ev P o a σ M).bind fun x M => evCmp P o r x σ M
  | .and es, σ, M => evAnd P o es σ M
  | .or es, σ, M => evOr P o es σ M
  | .ite c a b, σ, M => (ev P o c σ M).bind fun x M => match truthy M x with
    | some true => ev P o a σ M
    | some false => ev P o b σ M
    | none => .err
  | .ix a i, σ, M => (ev P o a σ M).bind fun x M => (ev P o i σ M).bind fun y M => okO M (item M x y)
  | .sl a lo hi, σ, M => (ev P o a σ M).bind fun x M => (evOpt P o lo σ M).bind fun l M => (evOpt P o hi σ M).bind fun h M => slice x l h M
  | .tup es, σ, M => (evs P o es σ M).bind fun vs M => nodata vs (.ok (.tup vs) M)
  | .lst es, σ, M => (evs P o es σ M).bind fun vs M => nodata vs (.ok (.ref M.length) (M ++ [.lst vs]))
  | .fld a f, σ, M => (ev P o a σ M).bind fun x M => match x with
    | .ref n => match M[n]? with
      | some (.ins c fs) => match P.isCls c && P.isFld f with
        | true => okO M (fs.lookup f)
        | false => .err
      | _ => .err
    | .exv c fs => match (P.excFs c).isSome && P.isFld f with
      | true => okO M (fs.lookup f)
      | false => .err
    | _ => .err
  | .call x as, σ, M => (evAs P o as σ M).bind fun vs M => match cloXs vs with
    | true => o (.fn x) vs M
    | false => .err
  | .callK x as, σ, M => (evs P o as σ M).bind fun vs M => nodata vs (o (.fn x) vs M)
  | .app i as, σ, M => match σ[i]? with
    | some (some f) => match f with
      | .glo x => (evAs P o as σ M).bind fun vs M => match cloXs vs with
        | true => o (.fn x) vs M
        | false => .err
      | .clo ps b τ => (evAs P o as σ M).bind fun vs M => match cloXs vs with
        | true => o (.clo ps b τ) vs M
        | false => .err
      | .lm n ps b => (evAs P o as σ M).bind fun vs M => match cloXs vs with
        | true => o (.clo ps b (List.replicate n none)) vs M
        | false => .err
      | _ => .err
    | _ => .err
  | .make c as, σ, M => (evs P o as σ M).bind fun vs M => nodata vs (match o (.mt c P.init) (.ref M.length :: vs) (M ++ [.ins c []]) with
    | .ok .non M1 => .ok (.ref M.length) M1
    | .ok _ _ => .err
    | r => r)
  | .meth a m as, σ, M => (ev P o a σ M).bind fun x M => match x with
    | .ref n => match M[n]? with
      | some (.ins c fs) => match (fs.lookup m).isNone && P.isMt c m with
        | true => (evs P o as σ M).bind fun vs M => nodata vs (o (.mt c m) (.ref n :: vs) M)
        | false => .err
      | _ => .err
    | _ => .err
  | .bi b as, σ, M => (evs P o as σ M).bind fun vs M => bi b vs M
  | .me m a as, σ, M => (ev P o a σ M).bind fun x M => match meRecv m x M with
    | true => (evs P o as σ M).bind fun vs M => me m x vs M
    | false => .err
  | .isi a cs, σ, M => (ev P o a σ M).bind fun x M => match cs.all (ownOk P) with
    | true => match isAny M x cs with
      | some b => .ok (.bl b) M
      | none => .err
    | false => .err
  | .comp own k, σ, M => match noXs σ with
    | true => (evComp P o k own σ [] M).bind fun vs M => .ok (.ref M.length) (M ++ [.lst vs])
    | false => .err
  | .lm n ps b, _, M => .ok (.lm n ps b) M
  | .lsO _, _, _ => .err
  | .tpO _, _, _ => .err
def evs (P : Env) (o : Oracle) : List Ex → Sl → Mem → R (List Val)
  | [], _, M => .ok [] M
  | e :: es, σ, M => (ev P o e σ M).bind fun v M => (evs P o es σ M).bind fun vs M => .ok (v :: vs) M
def evAnd (P : Env) (o : Oracle) : List Ex → Sl → Mem → R Val
  | [], _, _ => .err
  | e :: es, σ, M => (ev P o e σ M).bind fun v M => match es.isEmpty with
    | true => .ok v M
    | false => match truthy M v with
      | some true => evAnd P o es σ M
      | some false => .ok v M
      | none => .err
def evOr (P : Env) (o : Oracle) : List Ex → Sl → Mem → R Val
  | [], _, _ => .err
  | e :: es, σ, M => (ev P o e σ M).bind fun v M => match es.isEmpty with
    | true => .ok v M
    | false => match truthy M v with
      | some true => .ok v M
      | some false => evOr P o es σ M
      | none => .err
def evCmp (P : Env) (o : Oracle) : List Cr → Val → Sl → Mem → R Val
  | [], _, _, _ => .err
  | .mk op b :: cs, x, σ, M => (ev P o b σ M).bind fun y M => match cmpop op x y M with
    | none => .err
    | some k => match cs.isEmpty with
      | true => .ok (.bl k) M
      | false => match k with
        | true => evCmp P o cs y σ M
        | false => .ok (.bl false) M
def evOpt (P : Env) (o : Oracle) : Option Ex → Sl → Mem → R (Option Int)
  | none, _, M => .ok none M
  | some e, σ, M => (ev P o e σ M).bind fun v M => match v with
    | .int i => .ok (some i) M
    | _ => .err
def evAs (P : Env) (o : Oracle) : List Ag → Sl → Mem → R (List Val)
  | [], _, M => .ok [] M
  | .ex e :: as, σ, M => (ev P o e σ M).bind fun v M => (evAs P o as σ M).bind fun vs M => .ok (v :: vs) M
  | .lam ps b :: as, σ, M => (evAs P o as σ M).bind fun vs M => .ok (.clo ps b σ :: vs) M
def evIr (P : Env) (o : Oracle) : Ir → Sl → Mem → R It
  | .val e, σ, M => (ev P o e σ M).bind fun v M => okO M (itOf M v)
  | .range es, σ, M => (evs P o es σ M).bind fun vs M => okO M (rngOf vs)
  | .enum e, σ, M => (ev P o e σ M).bind fun v M => match lsIt M v with
    | some I => .ok (.enum I) M
    | none => .err
  | .zip a b, σ, M => (ev P o a σ M).bind fun v M => (ev P o b σ M).bind fun w M => zipIt M v w
  | .rev e, _, M => .err
def evIfs (P : Env) (o : Oracle) : List Ex → Sl → Mem → R Bool
  | [], _, M => .ok true M
  | e :: es, σ, M => (ev P o e σ M).bind fun v M => match truthy M v with
    | some true => evIfs P o es σ M
    | some false => .ok false M
    | none => .err
def evComp (P : Env) (o : Oracle) : Gn → List Nat → Sl → List Val → Mem → R (List Val)
  | .elt e, _, σ, acc, M => (ev P o e σ M).bind fun v M => match v.isD && decide (acc.length < lineN) with
    | true => .ok (acc ++ [v]) M
    | false => .err
  | .loop t it ifs k, own, σ, acc, M => (evIr P o it σ M).bind fun I M => compW I t (wipe σ own) (fun σ1 acc M => (evIfs P o ifs σ1 M).bind fun b M => match b with
        | true => evComp P o k k.slots σ1 acc M
        | false => .ok acc M) fuel 0 acc M
end
end Mi
end
section
set_option Elab.async false
set_option linter.all false
namespace Mi

/-- a statement's end where the expression raised, or had no end -/
@[reducible] def R.fl {α : Type} (r : R α) (σ : Sl) (f : α → Mem → Fl) : Fl :=
  match r with
  | .ok a M => f a M
  | .exc x M => .exc x σ M
  | .err => .err
/-- a field is stored -/
def putF (f : Nm) (v : Val) : List (Nm × Val) → List (Nm × Val)
  | [] => [(f, v)]
  | (g, x) :: r => if g = f then (g, v) :: r else (g, x) :: putF f v r
/-- a[i] = v, by values -/
def setIx (a i v : Val) (M : Mem) : Option Mem :=
  match a, i with
  | .ref n, .int i => match M[n]? with
    | some (.lst xs) => match L2.ixN xs.length i with
      | some k => match v.isD with
        | true => some (M.set n (.lst (xs.set k v)))
        | false => none
      | none => none
    | _ => none
  | _, _ => none
def setF (a : Val) (f : Nm) (v : Val) (M : Mem) : Option Mem :=
  match a with
  | .ref n => match M[n]? with
    | some (.ins c fs) => match v.isD && decide (fs.length < 100) with
      | true => some (M.set n (.ins c (putF f v fs)))
      | false => none
    | _ => none
  | _ => none
/-- an item of a list -/
def itemL (M : Mem) (a i : Val) : Option Val :=
  match a, i with
  | .ref n, .int i => match lsOf M n with
    | some xs => L2.atI xs i
    | none => none
  | _, _ => none
/-- the instance is still of that class -/
def sameCls (c : Nm) (a : Val) (M : Mem) : Bool :=
  match a with
  | .ref n => match M[n]? with
    | some (.ins d _) => decide (d = c)
    | _ => false
  | _ => false
mutual
def asg (P : Env) (o : Oracle) : Tg → Val → Sl → Mem → R Sl
  | .var i, v, σ, M => .ok (σ.set i (some v)) M
  | .tup ts, v, σ, M => match v with
    | .tup xs => asgs P o ts xs σ M
    | _ => .err
  | .sub a i, v, σ, M => (ev P o a σ M).bind fun x M => (ev P o i σ M).bind fun y M => match setIx x y v M with
    | some M => .ok σ M
    | none => .err
  | .fld a f, v, σ, M => (ev P o a σ M).bind fun x M => match P.isFld f with
    | true => match setF x f v M with
      | some M => .ok σ M
      | none => .err
    | false => .err
def asgs (P : Env) (o : Oracle) : List Tg → List Val → Sl → Mem → R Sl
  | [], vs, σ, M => match vs with
    | [] => .ok σ M
    | _ :: _ => .err
  | t :: ts, vs, σ, M => match vs with
    | [] => .err
    | v :: vs => (asg P o t v σ M).bind fun σ M => asgs P o ts vs σ M
end
/-- op= by values: a list grows in place -/
def augop (op : BOp) (x y : Val) (M : Mem) : R Val :=
  match op with
  | .add => match x, y with
    | .int i, .int j => .ok (.int (i + j)) M
    | .str a, .str b => match decide (a.length + b.length ≤ lineN) with
      | true => .ok (.str (a ++ b)) M
      | false => .err
    | .ref n, .ref k => match lsOf M n, lsOf M k with
      | some xs, some ys => match decide (xs.length + ys.length ≤ lineN) with
        | true => .ok (.ref n) (M.set n (.lst (xs ++ ys)))
        | false => .err
      | _, _ => .err
    | _, _ => .err
  | .sub => match x, y with
    | .int i, .int j => .ok (.int (i - j)) M
    | _, _ => .err
  | .mul => match x, y with
    | .int i, .int j => match decide (i.natAbs < 18446744073709551616) with
      | true => .ok (.int (i * j)) M
      | false => .err
    | _, _ => .err
  | .fdiv => match x, y with
    | .int i, .int j => match divOk j with
      | true => .ok (.int (i / j)) M
      | false => .err
    | _, _ => .err
  | .mod => match x, y with
    | .int i, .int j => match decide (0 < j) with
      | true => .ok (.int (i % j)) M
      | false => .err
    | _, _ => .err
  | _ => .err
/-- a while: so many turns at most -/
def whlW (c : Sl → Mem → R Bool) (b : Sl → Mem → Fl) : Nat → Sl → Mem → Fl
  | 0, _, _ => .err
  | f + 1, σ, M => match c σ M with
    | .ok true M1 => match b σ M1 with
      | .nx σ2 M2 => whlW c b f σ2 M2
      | .ct σ2 M2 => whlW c b f σ2 M2
      | .bk σ2 M2 => .nx σ2 M2
      | r => r
    | .ok false M1 => .nx σ M1
    | .exc x M1 => .exc x σ M1
    | .err => .err
def forW (I : It) (t : Pt) (b : Sl → Mem → Fl) : Nat → Nat → Sl → Mem → Fl
  | 0, _, _, _ => .err
  | f + 1, i, σ, M => match I.item M i with
    | none => .err
    | some none => .nx σ M
    | some (some v) => match t.put v σ with
      | none => .err
      | some σ1 => match b σ1 M with
        | .nx σ2 M2 => forW I t b f (i + 1) σ2 M2
        | .ct σ2 M2 => forW I t b f (i + 1) σ2 M2
        | .bk σ2 M2 => .nx σ2 M2
        | r => r
def evT (P : Env) (o : Oracle) (e : Ex) (σ : Sl) (M : Mem) : R Bool := (ev P o e σ M).bind fun v M => okO M (truthy M v)

def nodata' (vs : List Val) (r : Fl) : Fl := match allD vs with
  | true => r
  | false => .err
/-- an except suite's end: it returns a value, no exception -/
def suiteEnd : Fl → Fl
  | .rt v σ M => match v.isX with
    | true => .err
    | false => .rt v σ M
  | _ => .err
/-- the name of an except clause goes -/
def goneEnd (i : Nat) : Fl → Fl
  | .nx σ M => .nx (σ.set i none) M
  | .rt v σ M => .rt v (σ.set i none) M
  | .bk σ M => .bk (σ.set i none) M
  | .ct σ M => .ct (σ.set i none) M
  | r => r
/-- a try may begin: no handled exception stands in a slot, its clauses name known error classes -/
def tryOk (P : Env) (σ : Sl) (hs : List (Nm × Option Nat × List St)) : Bool := noXs σ && (!hs.isEmpty && hs.all fun h => (P.excFs h.1).isSome)
/-- .. and its body's end bears none -/
def endX (P : Env) : Fl → Bool
  | .nx σ _ => noXs σ
  | .bk σ _ => noXs σ
  | .ct σ _ => noXs σ
  | .rt v _ _ => !v.isX
  | .exc x σ _ => noXs σ && (P.excFs x.cls).isSome
  | .err => false
def tryEnd (P : Env) (r : Fl) (f : Exc → Sl → Mem → Fl) : Fl := match endX P r with
  | true => match r with
    | .exc x σ1 M1 => f x σ1 M1
    | r => r
  | false => .err
mutual
def xs (P : Env) (o : Oracle) : St → Sl → Mem → Fl
  | .asg t e, σ, M => (ev P o e σ M).fl σ fun v M => match asg P o t v σ M with
    | .ok σ1 M1 => .nx σ1 M1
    | _ => .err
  | .augV i op e, σ, M => match σ[i]? with
    | some (some x) => (ev P o e σ M).fl σ fun y M => (augop op x y M).fl σ fun z M => .nx (σ.set i (some z)) M
    | _ => .err
  | .augF a f op e, σ, M => (ev P o a σ M).fl σ fun x M => match x with
    | .ref n => match M[n]? with
      | some (.ins c fs) => match fs.lookup f with
        | some y => match P.isFld f with
          | true => (ev P o e σ M).fl σ fun z M => (augop op y z M).fl σ fun w M => match sameCls c x M with
            | true => match setF x f w M with
              | some M => .nx σ M
              | none => .err
            | false => .err
          | false => .err
        | none => .err
      | _ => .err
    | _ => .err
  | .augS a i op e, σ, M => (ev P o a σ M).fl σ fun x M => (ev P o i σ M).fl σ fun j M => match itemL M x j with
    | some y => (ev P o e σ M).fl σ fun z M => (augop op y z M).fl σ fun w M => match setIx x j w M with
      | some M => .nx σ M
      | none => .err
    | none => .err
  | .ret none, σ, M => .rt .non σ M
  | .ret (some e), σ, M => (ev P o e σ M).fl σ fun v M => .rt v σ M
  | .ex e, σ, M => (ev P o e σ M).fl σ fun _ M => .nx σ M
  | .ifs c a b, σ, M => (evT P o c σ M).fl σ fun k M => match k with
    | true => xss P o a σ M
    | false => xss P o b σ M
  | .for t it b, σ, M => (evIr P o it σ M).fl σ fun I M => forW I t (fun σ M => xss P o b σ M) fuel 0 σ M
  | .whl c b, σ, M => whlW (fun σ M => evT P o c σ M) (fun σ M => xss P o b σ M) fuel σ M
  | .rse c as, σ, M => match P.excFs c with
    | some ns => match ns.isEmpty with
      | true => .err
      | false => (evs P o as σ M).fl σ fun vs M => nodata' vs (match decide (ns.length = vs.length) with
        | true => .exc ⟨c, (ns.zip vs).reverse⟩ σ M
        | false => .err)
    | none => .err
  | .try b hs, σ, M => match tryOk P σ hs with
    | true => tryEnd P (xss P o b σ M) fun x σ1 M1 => hnd P o hs x σ1 M1
    | false => .err
  | .pass, σ, M => .nx σ M
  | .brk, σ, M => .bk σ M
  | .cnt, σ, M => .ct σ M
def xss (P : Env) (o : Oracle) : List St → Sl → Mem → Fl
  | [], σ, M => .nx σ M
  | s :: ss, σ, M => match xs P o s σ M with
    | .nx σ1 M1 => xss P o ss σ1 M1
    | r => r
def hnd (P : Env) (o : Oracle) : List (Nm × Option Nat × List St) → Exc → Sl → Mem → Fl
  | [], x, σ, M => .exc x σ M
  | (c, n, b) :: hs, x, σ, M => match (P.mro x.cls).contains c with
    | true => match n with
      | none => suiteEnd (xss P o b σ M)
      | some i => goneEnd i (suiteEnd (xss P o b (σ.set i (some (.exv x.cls x.fs))) M))
    | false => hnd P o hs x σ M
end

/-- a def: how many parameters, how many slots, its defaults, its body -/
structure Fn where
  np : Nat
  n : Nat
  dfl : List Val
  body : List St
structure Prog where
  env : Env
  fn : Nm → Option Fn
  mt : Nm → Nm → Option Fn
def setAll (σ : Sl) : List Nat → List Val → Sl
  | i :: is, v :: vs => setAll (σ.set i (some v)) is vs
  | _, _ => σ
/-- the values with the defaults that fill up -/
def fill (d : Fn) (vs : List Val) : List Val := vs ++ d.dfl.drop (d.dfl.length - (d.np - vs.length))
/-- a def's body with all its parameters -/
def runB (P : Env) (o : Oracle) (d : Fn) (us : List Val) (M : Mem) : R Val :=
  match decide (us.length = d.np) with
  | true => match xss P o d.body (us.map some ++ List.replicate (d.n - d.np) none) M with
    | .nx _ M1 => .ok .non M1
    | .rt v _ M1 => match v.isD with
      | true => .ok v M1
      | false => .err
    | .exc x _ M1 => .exc x M1
    | _ => .err
  | false => .err
/-- a closure's expression -/
def runC (P : Env) (o : Oracle) (ps : List Nat) (b : Ex) (σ : Sl) (vs : List Val) (M : Mem) : R Val :=
  match decide (ps.length = vs.length) with
  | true => (ev P o b (setAll σ ps vs) M).bind fun v M => match v.isD with
    | true => .ok v M
    | false => .err
  | false => .err
def run (Pr : Prog) : Nat → Oracle
  | 0 => fun _ _ _ => .err
  | k + 1 => fun c vs M => match c with
    | .fn x => match Pr.fn x with
      | some d => runB Pr.env (run Pr k) d (fill d vs) M
      | none => .err
    | .mt c m => match Pr.mt c m with
      | some d => runB Pr.env (run Pr k) d (fill d vs) M
      | none => .err
    | .clo ps b σ => runC Pr.env (run Pr k) ps b σ vs M
end Mi
end
section
set_option Elab.async false
set_option linter.all false
/-! MiPL: a program by lists. -/
namespace Mi
/-- a def of the text: its number, its form, its slots' names, whether it makes lambdas -/
structure FD where
  nm : Nm
  d : Fn
  N : List Str
  L : Bool
structure PL where
  names : List Str
  free : List Str
  cons : List (Nm × Val)
  fns : List FD
  cls : List Nm
  mts : List (Nm × FD)
  excs : List (Nm × List Nm × List Nm)
  flds : List Nm
  init : Nm
namespace PL
def fnd (p : PL) (x : Nm) : Option FD := p.fns.find? fun z => z.nm == x
def mtd (p : PL) (c m : Nm) : Option (Nm × FD) := p.mts.find? fun z => z.1 == c && z.2.nm == m
def env (p : PL) : Env where
  con x := p.cons.lookup x
  isFn x := (p.fnd x).isSome
  excFs x := (p.excs.lookup x).map (·.1)
  mro x := ((p.excs.lookup x).map (·.2)).getD []
  init := p.init
  isCls c := p.cls.contains c
  isFld f := p.flds.contains f
  isMt c m := (p.mtd c m).isSome
def prog (p : PL) : Prog where
  env := p.env
  fn x := (p.fnd x).map (·.d)
  mt c m := (p.mtd c m).map (·.2.d)
end PL
end Mi
end
section
set_option Elab.async false
set_option linter.all false
/-! S0: the model's syntax beside the small language: chk says that a tree of the one is the tree of the other. -/
namespace Mi
open PySem (Expr Stmt Scope NameKind Const Operator CmpOp Comprehension Keyword Arguments ExceptHandler)

/-- what the check looks up: the names by number; names that stand for built-ins -/
structure Tb where
  names : List Str
  free : List Str
  pars : Nm → List Str
  /-- defs that may be called, classes that may be made -/
  fnOk : Nm → Bool
  mkOk : Nm → Bool

def visK : Option NameKind → Bool
  | some .local => true
  | some .cell => true
  | some .free => true
  | _ => false
def locK : Option NameKind → Bool
  | some .local => true
  | some .cell => true
  | _ => false
def isL : Option NameKind → Bool
  | some .local => true
  | _ => false
def isGl : Option NameKind → Bool
  | some .globalImplicit => true
  | _ => false
def nmOk (x : Str) : Bool := !(x == ("__debug__" : Str)) && !(x == ("__classdict__" : Str))
/-- x is the name of slot i, to be read -/
def varOk (N : List Str) (sc : Scope) (i : Nat) (x : Str) : Bool := decide (N[i]? = some x) && (visK (sc.names.lookup x) && nmOk x)
/-- .. to be stored -/
def stoOk (N : List Str) (sc : Scope) (i : Nat) (x : Str) : Bool := decide (N[i]? = some x) && locK (sc.names.lookup x)
/-- x is the module's name of number j -/
def gloOk (T : Tb) (sc : Scope) (j : Nat) (x : Str) : Bool := decide (T.names[j]? = some x) && (isGl (sc.names.lookup x) && !(x == ("__debug__" : Str)))
/-- x is a built-in of this name -/
def bltOk (T : Tb) (sc : Scope) (x : Str) (b : Str) : Bool := decide (x = b) && (isGl (sc.names.lookup x) && T.free.contains b)

def chkL : Lit → Const → Bool
  | .non, .none => true
  | .bl b, .bool c => b == c
  | .int i, .int j => decide (i = j)
  | .str s, .str t => decide (s = t)
  | _, _ => false
def chkB : BOp → Operator → Bool
  | .add, .Add => true
  | .sub, .Sub => true
  | .mul, .Mult => true
  | .fdiv, .FloorDiv => true
  | .mod, .Mod => true
  | .pow, .Pow => true
  | .shl, .LShift => true
  | .shr, .RShift => true
  | _, _ => false
def chkC : COp → CmpOp → Bool
  | .eq, .Eq => true
  | .ne, .NotEq => true
  | .lt, .Lt => true
  | .le, .LtE => true
  | .gt, .Gt => true
  | .ge, .GtE => true
  | .is, .Is => true
  | .isnot, .IsNot => true
  | .isin, .In => true
  | .notin, .NotIn => true
  | _, _ => false
def biName : Bi → Str
  | .len => "len"
  | .abs => "abs"
  | .min => "min"
  | .max => "max"
  | .int => "int"
  | .str => "str"
  | .tuple => "tuple"
  | .list => "list"
  | .sum => "sum"
  | .any => "any"
  | .all => "all"
  | .sorted => "sorted"
  | .gcd => "gcd"
def biOk : Bi → Bool
  | .gcd => false
  | _ => true
def meOk : Me → Bool
  | .append => true
  | _ => false
def meName : Me → Str
  | .append => "append"
  | .pop => "pop"
  | .insert => "insert"
  | .join => "join"
  | .split => "split"
  | .replace => "replace"
  | .get => "get"
  | .index => "index"
  | .count => "count"
def chkCN (T : Tb) (sc : Scope) : CN → Expr → Bool
  | .int, .Name x _ => bltOk T sc x "int"
  | .bool, .Name x _ => bltOk T sc x "bool"
  | .str, .Name x _ => bltOk T sc x "str"
  | .list, .Name x _ => bltOk T sc x "list"
  | .tuple, .Name x _ => bltOk T sc x "tuple"
  | .own c, .Name x _ => gloOk T sc c x
  | _, _ => false
def chkCNs (T : Tb) (sc : Scope) : List CN → List Expr → Bool
  | [], [] => true
  | c :: cs, e :: es => chkCN T sc c e && chkCNs T sc cs es
  | _, _ => false
def chkIsi (T : Tb) (sc : Scope) (cs : List CN) : Expr → Bool
  | .Tuple xs _ _ => !cs.isEmpty && (decide (xs.length ≤ 1000) && chkCNs T sc cs xs)
  | c => match cs with
    | [k] => chkCN T sc k c
    | _ => false
mutual
def chkPt (N : List Str) (sc : Scope) : Pt → Expr → Bool
  | .var i, e => match e with
    | .Name x _ => stoOk N sc i x
    | _ => false
  | .tup ts, e => match e with
    | .Tuple es _ _ => chkPts N sc ts es
    | _ => false
def chkPts (N : List Str) (sc : Scope) : List Pt → List Expr → Bool
  | [], es => match es with
    | [] => true
    | _ => false
  | t :: ts, es => match es with
    | e :: es => chkPt N sc t e && chkPts N sc ts es
    | [] => false
end
/-- the names that a comprehension's block has of its own are the slots own -/
def blkB (N : List Str) (sc scope : Scope) (own : List Nat) : Bool :=
  decide (scope.kind = .function) && (scope.names.all (fun y => decide (scope.names.lookup y.1 = some y.2)) && (scope.names.all (fun y => match y.2 with
    | .free => locK (sc.names.lookup y.1) && !isL (sc.names.lookup y.1) || decide (sc.names.lookup y.1 = some .free)
    | .local => own.any fun i => decide (N[i]? = some y.1)
    | .cell => own.any fun i => decide (N[i]? = some y.1)
    | _ => true) && own.all fun i => (N[i]?).isSome))
/-- a lambda's parameters are the slots ps, its only own names -/
def lamB (N : List Str) (sc scope : Scope) (ps : List Nat) (a : Arguments) : Bool :=
  decide (scope.kind = .function) && (!scope.isCoroutine && (!scope.isGenerator && (decide (a.posonlyargs.length = 0) && (decide (a.vararg.isNone) && (decide (a.kwonlyargs.length = 0) && (decide (a.kwarg.isNone) && (decide (a.defaults.length = 0) &&
    (decide (a.kw_defaults.length = 0) && (decide (ps.map (fun i => N[i]?) = a.args.map fun z => some z.arg) && (decide (a.args.map (·.arg)).Nodup && (a.args.all (fun z => decide (scope.names.lookup z.arg = some .local)) && scope.names.all (fun y => decide (scope.names.lookup y.1 = some y.2) && match y.2 with
      | .free => locK (sc.names.lookup y.1) && !isL (sc.names.lookup y.1) || decide (sc.names.lookup y.1 = some .free)
      | .local => (a.args.map (·.arg)).contains y.1
      | .cell => false
      | _ => true))))))))))))

def noFree (sc : Scope) : Bool := sc.names.all fun y => match y.2 with
  | .free => false
  | _ => true
def isElt : Gn → Bool
  | .elt _ => true
  | _ => false
def isTup : Expr → Bool
  | .Tuple _ _ _ => true
  | _ => false
/-- no call of super -/
def noSup : Expr → Bool
  | .Call (.Name x _) [] [] _ => !(x == ("super" : Str))
  | _ => true
mutual
def chk (T : Tb) (L : Bool) (N : List Str) (sc : Scope) : Ex → Expr → Bool
  | .var i, e => match e with
    | .Name x _ => varOk N sc i x
    | _ => false
  | .lit c, e => match e with
    | .Constant k _ _ => chkL c k
    | _ => false
  | .glo j, e => match e with
    | .Name x _ => gloOk T sc j x
    | _ => false
  | .bin op a b, e => match e with
    | .BinOp x o y _ => chkB op o && (chk T L N sc a x && chk T L N sc b y)
    | _ => false
  | .neg a, e => match e with
    | .UnaryOp .USub x _ => chk T L N sc a x
    | _ => false
  | .not a, e => match e with
    | .UnaryOp .Not x _ => chk T L N sc a x
    | _ => false
  | .cmp a r, e => match e with
    | .Compare x ops ys _ => chk T L N sc a x && chkCr T L N sc r ops ys
    | _ => false
  | .and es, e => match e with
    | .BoolOp .And xs _ => chks T L N sc es xs
    | _ => false
  | .or es, e => match e with
    | .BoolOp .Or xs _ => chks T L N sc es xs
    | _ => false
  | .ite c a b, e => match e with
    | .IfExp x y z _ => chk T L N sc c x && (chk T L N sc a y && chk T L N sc b z)
    | _ => false
  | .ix a i, e => match e with
    | .Subscript x y _ => chk T L N sc a x && chk T L N sc i y
    | _ => false
  | .sl a lo hi, e => match e with
    | .Subscript x (.Slice l h none _) _ => chk T L N sc a x && (chkO T L N sc lo l && chkO T L N sc hi h)
    | _ => false
  | .tup es, e => match e with
    | .Tuple xs _ _ => decide (xs.length ≤ 1000) && chks T L N sc es xs
    | _ => false
  | .lst es, e => match e with
    | .List xs _ => decide (xs.length ≤ 1000) && chks T L N sc es xs
    | _ => false
  | .fld a f, e => match e with
    | .Attribute x n _ => decide (T.names[f]? = some n) && (noSup x && chk T L N sc a x)
    | _ => false
  | .call j as, e => match e with
    | .Call (.Name x _) xs [] _ => gloOk T sc j x && (T.fnOk j && chkA T L N sc as xs)
    | _ => false
  | .callK j as, e => match e with
    | .Call (.Name x _) [] (k :: ks) _ => gloOk T sc j x && (T.fnOk j && decide ((k :: ks).map (·.arg) = (T.pars j).map some) && chkK T L N sc as (k :: ks))
    | _ => false
  | .app i as, e => match e with
    | .Call (.Name x _) xs [] _ => varOk N sc i x && chkA T L N sc as xs
    | _ => false
  | .make c as, e => match e with
    | .Call (.Name x _) xs [] _ => gloOk T sc c x && (T.mkOk c && chks T L N sc as xs)
    | _ => false
  | .meth a m as, e => match e with
    | .Call (.Attribute x n ap) xs [] p => decide (T.names[m]? = some n) && (ap.endLine == p.line && (noSup x && (decide (xs.length < 20) && (chk T L N sc a x && chks T L N sc as xs))))
    | _ => false
  | .bi b as, e => match e with
    | .Call (.Name x _) xs [] _ => bltOk T sc x (biName b) && (biOk b && chks T L N sc as xs)
    | _ => false
  | .me m a as, e => match e with
    | .Call (.Attribute x n ap) xs [] p => decide (n = meName m) && (meOk m && (ap.endLine == p.line && (noSup x && (decide (xs.length < 20) && (chk T L N sc a x && chks T L N sc as xs)))))
    | _ => false
  | .isi a cs, e => match e with
    | .Call (.Name f _) [x, c] [] _ => bltOk T sc f "isinstance" && (chk T L N sc a x && chkIsi T sc cs c)
    | _ => false
  | .comp own k, e => match e with
    | .ListComp elt gens scope _ => !isElt k && (blkB N sc scope own && chkG T N own sc scope (L2.relS scope sc) k gens elt)
    | _ => false
  | .lm n ps b, e => match e with
    | .Lambda a body scope _ => L && (decide (n = N.length) && (lamB N sc scope ps a && (noFree scope && chk T false N scope b body)))
    | _ => false
  | .lsO it, e => false
  | .tpO it, e => false
def chks (T : Tb) (L : Bool) (N : List Str) (sc : Scope) : List Ex → List Expr → Bool
  | [], es => match es with
    | [] => true
    | _ => false
  | a :: as, es => match es with
    | e :: es => chk T L N sc a e && chks T L N sc as es
    | [] => false
def chkO (T : Tb) (L : Bool) (N : List Str) (sc : Scope) : Option Ex → Option Expr → Bool
  | none, e => e.isNone
  | some a, e => match e with
    | some x => chk T L N sc a x
    | none => false
def chkCr (T : Tb) (L : Bool) (N : List Str) (sc : Scope) : List Cr → List CmpOp → List Expr → Bool
  | [], ops, es => match ops, es with
    | [], [] => true
    | _, _ => false
  | .mk op b :: r, ops, es => match ops, es with
    | o :: os, e :: es => chkC op o && (chk T L N sc b e && chkCr T L N sc r os es)
    | _, _ => false
def chkA (T : Tb) (L : Bool) (N : List Str) (sc : Scope) : List Ag → List Expr → Bool
  | [], es => match es with
    | [] => true
    | _ => false
  | .ex a :: as, es => match es with
    | e :: es => chk T L N sc a e && chkA T L N sc as es
    | [] => false
  | .lam ps b :: as, es => match es with
    | .Lambda a body scope _ :: es => L && (lamB N sc scope ps a && (chk T false N scope b body && chkA T L N sc as es))
    | _ => false
def chkK (T : Tb) (L : Bool) (N : List Str) (sc : Scope) : List Ex → List Keyword → Bool
  | [], es => match es with
    | [] => true
    | _ => false
  | a :: as, es => match es with
    | ⟨some _, e, _⟩ :: es => chk T L N sc a e && chkK T L N sc as es
    | _ => false
def chkIr (T : Tb) (L : Bool) (N : List Str) (sc : Scope) (tg : Expr) : Ir → Expr → Bool
  | .val a, e => chk T L N sc a e
  | .range as, e => match e with
    | .Call (.Name x _) xs [] _ => bltOk T sc x "range" && (decide (xs.length ≤ 2) && chks T L N sc as xs)
    | _ => false
  | .enum a, e => match e with
    | .Call (.Name f _) [x] [] _ => bltOk T sc f "enumerate" && (isTup tg && chk T L N sc a x)
    | _ => false
  | .zip a b, e => match e with
    | .Call (.Name f _) [x, y] [] _ => bltOk T sc f "zip" && (isTup tg && (chk T L N sc a x && chk T L N sc b y))
    | _ => false
  | .rev a, e => match e with
    | .Call (.Name f _) [x] [] _ => bltOk T sc f "reversed" && chk T L N sc a x
    | _ => false
/-- sc: the scope in which the first iterable stands; ws, bl: the block's written scope, the one that runs -/
def chkG (T : Tb) (N : List Str) (own : List Nat) (sc ws bl : Scope) : Gn → List Comprehension → Expr → Bool
  | .elt a, gens, e => match gens with
    | [] => chk T false N bl a e
    | _ => false
  | .loop t it ifs k, gens, e => match gens with
    | ⟨tg, iter, is, as⟩ :: gens => decide (as = 0) && (isElt k && (t.slots.all own.contains && (chkPt N ws t tg && (chkIr T false N sc tg it iter && (decide (is.length ≤ 1) && (chks T false N bl ifs is && chkG T N own bl ws bl k gens e))))))
    | [] => false
end
end Mi
end
section
set_option Elab.async false
set_option linter.all false
/-! S0b: statements beside the small language. -/
namespace Mi
open PySem (Expr Stmt Scope NameKind Const Operator CmpOp Comprehension Keyword Arguments ExceptHandler)
def isComp : Expr → Bool
  | .ListComp _ _ _ _ => true
  | .SetComp _ _ _ _ => true
  | .DictComp _ _ _ _ _ => true
  | _ => false
mutual
def chkTg (T : Tb) (N : List Str) (sc : Scope) : Tg → Expr → Bool
  | .var i, e => match e with
    | .Name x _ => stoOk N sc i x
    | _ => false
  | .tup ts, e => match e with
    | .Tuple es _ _ => chkTgs T N sc ts es
    | _ => false
  | .sub a i, e => match e with
    | .Subscript x y _ => chk T false N sc a x && chk T false N sc i y
    | _ => false
  | .fld a f, e => match e with
    | .Attribute x n _ => decide (T.names[f]? = some n) && (noSup x && chk T false N sc a x)
    | _ => false
def chkTgs (T : Tb) (N : List Str) (sc : Scope) : List Tg → List Expr → Bool
  | [], es => match es with
    | [] => true
    | _ => false
  | t :: ts, es => match es with
    | e :: es => chkTg T N sc t e && chkTgs T N sc ts es
    | [] => false
end
/-- the names of a tuple target that are swapped -/
def swNames (sc : Scope) (ts : List Expr) : List Str :=
  let line := (ts.head?.map (·.pos.line)).getD 0
  ts.filterMap fun
    | .Name id pos => if sc.names.lookup id == some .local && pos.line == line then some id else none
    | _ => none
/-- nothing is swapped -/
def swNone (sc : Scope) (ts vs : List Expr) : Bool :=
  !(ts.length == 2 || ts.length == 3) || vs.length != ts.length || ((swNames sc ts).length != ts.length || (swNames sc ts).eraseDups.length != (swNames sc ts).length) || vs.all (PySem.foldedForSure 8)
/-- two, three local names are swapped -/
def swPar (sc : Scope) (ts vs : List Expr) : Bool :=
  (ts.length == 2 || ts.length == 3) && vs.length == ts.length && ((swNames sc ts).length == ts.length && (swNames sc ts).eraseDups.length == (swNames sc ts).length) && (!(vs.all (PySem.foldedForSure 8)) && !(vs.all (PySem.constantsAlone 8)))
def swOk (sc : Scope) (tg e : Expr) : Bool :=
  match tg, e with
  | .Tuple ts _ _, .Tuple vs _ _ => swNone sc ts vs || swPar sc ts vs
  | .Tuple _ _ _, e => !isComp e
  | _, _ => true
/-- what may stand in an except suite -/
def hOk : Ex → Bool
  | .var _ => true
  | .lit _ => true
  | .fld a _ => match a with
    | .var _ => true
    | _ => false
  | _ => false
def hOks : Ex → Bool
  | .tup es => es.all hOk
  | e => hOk e
mutual
def chkSt (T : Tb) (L : Bool) (N : List Str) (sc : Scope) : St → Stmt → Bool
  | .asg t e, s => match s with
    | .Assign [tg] v _ => chkTg T N sc t tg && (chk T L N sc e v && swOk sc tg v)
    | _ => false
  | .augV i op e, s => match s with
    | .AugAssign (.Name x _) o v _ => stoOk N sc i x && (varOk N sc i x && (chkB op o && chk T L N sc e v))
    | _ => false
  | .augF a f op e, s => match s with
    | .AugAssign (.Attribute x n _) o v _ => decide (T.names[f]? = some n) && (noSup x && (chk T false N sc a x && (chkB op o && chk T L N sc e v)))
    | _ => false
  | .augS a i op e, s => match s with
    | .AugAssign (.Subscript x y _) o v _ => chk T false N sc a x && (chk T false N sc i y && (chkB op o && chk T L N sc e v))
    | _ => false
  | .ret e, s => match s with
    | .Return v _ => match e, v with
      | none, none => true
      | some e, some v => chk T L N sc e v
      | _, _ => false
    | _ => false
  | .ex e, s => match s with
    | .Expr v _ => !isComp v && chk T L N sc e v
    | _ => false
  | .ifs c a b, s => match s with
    | .If x y z _ => chk T L N sc c x && (chkSs T L N sc a y && chkSs T L N sc b z)
    | _ => false
  | .for t it b, s => match s with
    | .For tg iter body [] _ => chkPt N sc t tg && (chkIr T L N sc tg it iter && chkSs T L N sc b body)
    | _ => false
  | .whl c b, s => match s with
    | .While x body [] _ => chk T L N sc c x && chkSs T L N sc b body
    | _ => false
  | .rse c as, s => match s with
    | .Raise (some (.Call (.Name x _) xs [] _)) none _ => gloOk T sc c x && chks T false N sc as xs
    | _ => false
  | .try b hs, s => match s with
    | .Try body hds [] [] _ => chkSs T L N sc b body && chkHs T N sc hs hds
    | _ => false
  | .pass, s => match s with
    | .Pass _ => true
    | _ => false
  | .brk, s => match s with
    | .Break _ => true
    | _ => false
  | .cnt, s => match s with
    | .Continue _ => true
    | _ => false
def chkSs (T : Tb) (L : Bool) (N : List Str) (sc : Scope) : List St → List Stmt → Bool
  | [], ss => match ss with
    | [] => true
    | _ => false
  | a :: as, ss => match ss with
    | s :: ss => chkSt T L N sc a s && chkSs T L N sc as ss
    | [] => false
def chkHs (T : Tb) (N : List Str) (sc : Scope) : List (Nm × Option Nat × List St) → List ExceptHandler → Bool
  | [], hs => match hs with
    | [] => true
    | _ => false
  | h :: as, hs => match hs with
    | .ExceptHandler (some (.Name x _)) nm body _ :: hs => gloOk T sc h.1 x && ((match h.2.1, nm with
        | none, none => true
        | some i, some y => stoOk N sc i y && decide (sc.names.lookup y = some .local)
        | _, _ => false) && ((match h.2.2, body with
        | [.ret (some e)], [.Return (some v) _] => hOks e && chk T false N sc e v
        | [.ret none], [.Return none _] => true
        | _, _ => false) && chkHs T N sc as hs))
    | _ => false
end
end Mi
end
section
set_option Elab.async false
set_option linter.all false
set_option maxRecDepth 100000
/-! S1: how the small language's values and heap lie in the model's: the relations, and that they are kept. -/
namespace Mi
open PySem PySem.Spec PyProof.Rows
open L2 (V Hp HO SqL SqT RelV upd upd_same upd_ne ne_of ne_of_none Key)

structure Link where
  P : PySem.Program
  w : PySem.World
  K : PySem.W.Frag
  mg : Str → Option PySem.Value
  T : Tb
  Pr : Prog
  tabs : List (Addr × Str)
  /-- code objects of defs that make lambdas, their tables, their quals -/
  cods : List (Addr × Addr × Str)

/-- a lambda's object, known -/
def FunO (f : Addr) (ob : PySem.Obj) : HO := .ext fun h => h.get? f = some ob
abbrev lamOb (q : Str) (a : Arguments) (b : Expr) (sc : Scope) (cl : List (Str × Addr)) (pm : Value) (c' : Addr) (ct : Value) : PySem.Obj := PySem.W.kla_obj "<lambda>" q a b sc cl pm c' ct

mutual
/-- data: v of the small language is x -/
inductive RD (S : Link) (φ : List Addr) (H : Hp) : Val → V → Prop
  | non : RD S φ H .non .non
  | bl (b : Bool) : RD S φ H (.bl b) (.bl b)
  | int (i : Int) : RD S φ H (.int i) (.int i)
  | str (s : Str) : RD S φ H (.str s) (.str s)
  | tup {vs : List Val} {xs : List V} {a : Addr} : SqT S.K H a xs → RDs S φ H vs xs → RD S φ H (.tup vs) (.ref a)
  | rl {vs : List Val} {xs : List V} {a : Addr} {o : PySem.Obj} : H a = some (.frz o (.lst xs)) ∨ (SqL S.K (fun _ => none) a xs) → RDs S φ H vs xs → RD S φ H (.rl vs) (.ref a)
  | ref {n : Nat} {a : Addr} : φ[n]? = some a → RD S φ H (.ref n) (.ref a)
  | glo {x : Nm} {s : Str} {f : Addr} : S.T.names[x]? = some s → S.Pr.env.isFn x = true → S.mg s = some (.ref f) → RD S φ H (.glo x) (.ref f)
  | lm {n : Nat} {ps : List Nat} {b : Ex} {N : List Str} {sc scope : Scope} {q : Str} {a : Arguments} {body : Expr} {pm ct : Value} {f c' : Addr} :
      n = N.length → N.Nodup → lamB N sc scope ps a = true → noFree scope = true → chk S.T false N scope b body = true →
      H f = some (FunO f (lamOb q a body scope [] pm c' ct)) → H c' = some (LamX.CodeO c' q) → RD S φ H (.lm n ps b) (.ref f)
inductive RDs (S : Link) (φ : List Addr) (H : Hp) : List Val → List V → Prop
  | nil : RDs S φ H [] []
  | cons {v : Val} {vs : List Val} {x : V} {xs : List V} : RD S φ H v x → RDs S φ H vs xs → RDs S φ H (v :: vs) (x :: xs)
end
/-- fields by name -/
inductive RFs (S : Link) (φ : List Addr) (H : Hp) : List (Nm × Val) → List (Str × V) → Prop
  | nil : RFs S φ H [] []
  | cons {f : Nm} {s : Str} {v : Val} {x : V} {fs : List (Nm × Val)} {ys : List (Str × V)} : S.T.names[f]? = some s → RD S φ H v x → RFs S φ H fs ys → RFs S φ H ((f, v) :: fs) ((s, x) :: ys)
/-- an object of the small heap is what stands at a -/
inductive RO (S : Link) (φ : List Addr) (H : Hp) : Ob → Addr → Prop
  | lst {vs : List Val} {xs : List V} {a : Addr} : H a = some (.lst xs) → RDs S φ H vs xs → RO S φ H (.lst vs) a
  | ins {c : Nm} {s : Str} {fs : List (Nm × Val)} {ys : List (Str × V)} {a C dx : Addr} : S.Pr.env.isCls c = true → S.T.names[c]? = some s → S.mg s = some (.ref C) → H a = some (.ins C dx ys) → RFs S φ H fs ys → RO S φ H (.ins c fs) a

structure Rel (S : Link) (φ : List Addr) (M : Mem) (H : Hp) : Prop where
  len : φ.length = M.length
  nd : φ.Nodup
  ob : ∀ (n : Nat) (o : Ob) (a : Addr), M[n]? = some o → φ[n]? = some a → RO S φ H o a
  tab : LamX.Tabs S.tabs H

/-- what no step of ours changes -/
def Imm : HO → Prop
  | .tup _ => True
  | .frz _ _ => True
  | .xd _ => True
  | .own _ => True
  | .ext _ => True
  | _ => False
/-- from H on to H': what is told of φ may change, all else is kept -/
structure Keep (φ φ' : List Addr) (H H' : Hp) : Prop where
  imm : ∀ a o, H a = some o → Imm o → H' a = some o
  oth : ∀ a o, H a = some o → a ∉ φ → (∀ ps, o ≠ .tbl ps) → H' a = some o
  dom : ∀ a o, H a = some o → ∃ o', H' a = some o'
  ext : ∃ ψ, φ' = φ ++ ψ ∧ ∀ a ∈ ψ, H a = none

theorem Keep.refl (φ : List Addr) (H : Hp) : Keep φ φ H H := ⟨fun _ _ h _ => h, fun _ _ h _ _ => h, fun _ o h => ⟨o, h⟩, [], (List.append_nil _).symm, fun _ h => nomatch h⟩
theorem Keep.back {φ φ1 : List Addr} {H H1 : Hp} (a : Keep φ φ1 H H1) {c : Addr} (h : H1 c = none) : H c = none := by
  cases e : H c with
  | none => rfl
  | some o =>
    obtain ⟨o', e'⟩ := a.dom c o e
    rw [h] at e'; cases e'
theorem Keep.trans {φ φ1 φ2 : List Addr} {H H1 H2 : Hp} (a : Keep φ φ1 H H1) (b : Keep φ1 φ2 H1 H2) : Keep φ φ2 H H2 := by
  obtain ⟨ψ, e, hn⟩ := a.ext
  obtain ⟨ψ', e', hn'⟩ := b.ext
  refine ⟨fun c o h i => b.imm c o (a.imm c o h i) i, fun c o h n t => b.oth c o (a.oth c o h n t) (fun z => ?_) t, fun c o h => ?_, ψ ++ ψ', by rw [e', e, List.append_assoc], fun c hc => ?_⟩
  · rw [e] at z
    rcases List.mem_append.mp z with z | z
    · exact n z
    · rw [hn c z] at h; cases h
  · obtain ⟨o', h'⟩ := a.dom c o h
    exact b.dom c o' h'
  · rcases List.mem_append.mp hc with z | z
    · exact hn c z
    · exact a.back (hn' c z)
theorem Keep.get {φ φ' : List Addr} {H H' : Hp} (k : Keep φ φ' H H') {n : Nat} {a : Addr} (h : φ[n]? = some a) : φ'[n]? = some a := by
  obtain ⟨ψ, e, _⟩ := k.ext
  rw [e, List.getElem?_append_left (by
    have := (List.getElem?_eq_some_iff.mp h).1
    exact this)]
  exact h
theorem Keep.sqT {φ φ' : List Addr} {H H' : Hp} (k : Keep φ φ' H H') {K : PySem.W.Frag} {a : Addr} {xs : List V} (h : SqT K H a xs) : SqT K H' a xs := by
  rcases h with (h | ⟨o, h⟩) | h
  · exact .inl (.inl (k.imm a _ h trivial))
  · exact .inl (.inr ⟨o, k.imm a _ h trivial⟩)
  · exact .inr h

mutual
theorem RD.mono {S : Link} {φ φ' : List Addr} {H H' : Hp} (k : Keep φ φ' H H') : ∀ {v : Val} {x : V}, RD S φ H v x → RD S φ' H' v x
  | _, _, .non => .non
  | _, _, .bl b => .bl b
  | _, _, .int i => .int i
  | _, _, .str s => .str s
  | _, _, .tup h r => .tup (k.sqT h) (RDs.mono k r)
  | _, _, .rl (o := o) h r => .rl (o := o) (h.imp (fun h => k.imm _ _ h trivial) id) (RDs.mono k r)
  | _, _, .ref h => .ref (k.get h)
  | _, _, .glo h1 h2 h3 => .glo h1 h2 h3
  | _, _, .lm h1 h2 h3 h4 h5 h6 h7 => .lm h1 h2 h3 h4 h5 (k.imm _ _ h6 trivial) (k.imm _ _ h7 trivial)
theorem RDs.mono {S : Link} {φ φ' : List Addr} {H H' : Hp} (k : Keep φ φ' H H') : ∀ {v : List Val} {x : List V}, RDs S φ H v x → RDs S φ' H' v x
  | _, _, .nil => .nil
  | _, _, .cons r t => .cons (RD.mono k r) (RDs.mono k t)
end
theorem RFs.mono {S : Link} {φ φ' : List Addr} {H H' : Hp} (k : Keep φ φ' H H') : ∀ {v : List (Nm × Val)} {x : List (Str × V)}, RFs S φ H v x → RFs S φ' H' v x
  | _, _, .nil => .nil
  | _, _, .cons h r t => .cons h (r.mono k) (RFs.mono k t)
section
variable {S : Link} {φ φ' : List Addr} {H H' : Hp} {M : Mem}
theorem RDs.length : ∀ {vs : List Val} {xs : List V}, RDs S φ H vs xs → vs.length = xs.length
  | _, _, .nil => rfl
  | _, _, .cons _ t => congrArg (· + 1) (RDs.length t)
theorem RDs.get : ∀ {vs : List Val} {xs : List V} {i : Nat} {v : Val}, RDs S φ H vs xs → vs[i]? = some v → ∃ x, xs[i]? = some x ∧ RD S φ H v x
  | _, _, _, _, .nil, e => by simp at e
  | _, _, 0, _, .cons r _, e => by simp at e; subst e; exact ⟨_, rfl, r⟩
  | _, _, i + 1, v, .cons _ t, e => by
    obtain ⟨x, h1, h2⟩ := RDs.get (i := i) (v := v) t (by simpa using e)
    exact ⟨x, by simpa using h1, h2⟩
theorem RDs.append : ∀ {vs ws : List Val} {xs ys : List V}, RDs S φ H vs xs → RDs S φ H ws ys → RDs S φ H (vs ++ ws) (xs ++ ys)
  | _, _, _, _, .nil, s => s
  | _, _, _, _, .cons r t, s => .cons r (RDs.append t s)
theorem RDs.set {v : Val} {x : V} (r : RD S φ H v x) : ∀ {vs : List Val} {xs : List V} (i : Nat), RDs S φ H vs xs → RDs S φ H (vs.set i v) (xs.set i x)
  | _, _, _, .nil => .nil
  | _, _, 0, .cons _ t => .cons r t
  | _, _, i + 1, .cons q t => .cons q (RDs.set r i t)
theorem RDs.take : ∀ {vs : List Val} {xs : List V} (n : Nat), RDs S φ H vs xs → RDs S φ H (vs.take n) (xs.take n)
  | _, _, 0, _ => .nil
  | _, _, _ + 1, .nil => .nil
  | _, _, n + 1, .cons r t => .cons r (RDs.take n t)
theorem RDs.drop : ∀ {vs : List Val} {xs : List V} (n : Nat), RDs S φ H vs xs → RDs S φ H (vs.drop n) (xs.drop n)
  | _, _, 0, r => r
  | _, _, _ + 1, .nil => .nil
  | _, _, n + 1, .cons _ t => RDs.drop n t
theorem RFs.lookup {f : Nm} {s : Str} {v : Val} (hn : S.T.names.Nodup) (hs : S.T.names[f]? = some s) : ∀ {fs : List (Nm × Val)} {ys : List (Str × V)}, RFs S φ H fs ys → fs.lookup f = some v → ∃ x, ys.lookup s = some x ∧ RD S φ H v x
  | _, _, .nil, e => by cases e
  | _, _, .cons (f := g) (s := t) h r q, e => by
    by_cases hf : f = g
    · subst hf
      rw [hs] at h; cases h
      simp only [List.lookup_cons, beq_self_eq_true] at e ⊢
      cases e
      exact ⟨_, rfl, r⟩
    · have hb : (f == g) = false := beq_eq_false_iff_ne.mpr hf
      have hst : (s == t) = false := beq_eq_false_iff_ne.mpr fun z => hf (by
        subst z
        exact (List.getElem?_inj (List.getElem?_eq_some_iff.mp hs).1 hn).mp (hs.trans h.symm))
      simp only [List.lookup_cons, hb] at e
      simp only [List.lookup_cons, hst]
      exact RFs.lookup hn hs q e
theorem RFs.none {f : Nm} {s : Str} (hn : S.T.names.Nodup) (hs : S.T.names[f]? = some s) : ∀ {fs : List (Nm × Val)} {ys : List (Str × V)}, RFs S φ H fs ys → fs.lookup f = none → ys.lookup s = none
  | _, _, .nil, e => rfl
  | _, _, .cons (f := g) (s := t) h r q, e => by
    by_cases hf : f = g
    · subst hf
      simp only [List.lookup_cons, beq_self_eq_true] at e
      cases e
    · have hb : (f == g) = false := beq_eq_false_iff_ne.mpr hf
      have hst : (s == t) = false := beq_eq_false_iff_ne.mpr fun z => hf (by
        subst z
        exact (List.getElem?_inj (List.getElem?_eq_some_iff.mp hs).1 hn).mp (hs.trans h.symm))
      simp only [List.lookup_cons, hb] at e
      simp only [List.lookup_cons, hst]
      exact RFs.none hn hs q e
theorem RFs.length : ∀ {fs : List (Nm × Val)} {ys : List (Str × V)}, RFs S φ H fs ys → fs.length = ys.length
  | _, _, .nil => rfl
  | _, _, .cons _ _ t => congrArg (· + 1) (RFs.length t)
theorem RFs.putF {f : Nm} {s : Str} {v : Val} {x : V} (hn : S.T.names.Nodup) (hs : S.T.names[f]? = some s) (r : RD S φ H v x) : ∀ {fs : List (Nm × Val)} {ys : List (Str × V)}, RFs S φ H fs ys → RFs S φ H (putF f v fs) (L2.putF s x ys)
  | _, _, .nil => .cons hs r .nil
  | _, _, .cons (f := g) (s := t) (fs := fs) (ys := ys) (v := v0) (x := x0) h q l => by
    unfold Mi.putF L2.putF
    by_cases hf : g = f
    · subst hf
      rw [hs] at h; cases h
      rw [if_pos rfl, if_pos rfl]
      exact .cons hs r l
    · have hst : ¬ t = s := fun z => hf (by
        subst z
        exact (List.getElem?_inj (List.getElem?_eq_some_iff.mp h).1 hn).mp (h.trans hs.symm))
      rw [if_neg hf, if_neg hst]
      exact .cons h q (RFs.putF hn hs r l)
/-- an address of φ holds a list or an instance -/
theorem Rel.at_ (R : Rel S φ M H) {n : Nat} {a : Addr} (h : φ[n]? = some a) : ∃ o, M[n]? = some o ∧ RO S φ H o a := by
  have hl : n < M.length := by
    have := (List.getElem?_eq_some_iff.mp h).1
    rw [R.len] at this; exact this
  exact ⟨M[n], by simp [hl], R.ob n _ a (by simp [hl]) h⟩
theorem RO.have_ {o : Ob} {a : Addr} (r : RO S φ H o a) : ∃ u, H a = some u ∧ ¬ Imm u ∧ ∀ ps, u ≠ .tbl ps := by
  cases r with
  | lst h _ => exact ⟨_, h, fun z => z, fun ps z => by cases z⟩
  | ins _ _ _ h _ => exact ⟨_, h, fun z => z, fun ps z => by cases z⟩
theorem Rel.mem (R : Rel S φ M H) {a : Addr} (h : a ∈ φ) : ∃ u, H a = some u ∧ ¬ Imm u ∧ ∀ ps, u ≠ .tbl ps := by
  obtain ⟨n, hn, e⟩ := List.mem_iff_getElem.mp h
  obtain ⟨o, _, r⟩ := R.at_ (n := n) (a := a) (by rw [List.getElem?_eq_getElem hn, e])
  exact r.have_
theorem Rel.out (R : Rel S φ M H) {p : Addr} (hp : H p = none) : p ∉ φ := fun z => by
  obtain ⟨u, e, _⟩ := R.mem z
  rw [hp] at e; cases e
/-- what an object's relation asks is kept where its own address is -/
theorem RO.mono {o : Ob} {a : Addr} (k : Keep φ φ' H H') (e : ∀ u, H a = some u → H' a = some u) (r : RO S φ H o a) : RO S φ' H' o a := by
  cases r with
  | lst h q => exact .lst (e _ h) (q.mono k)
  | ins h0 h1 h2 h q => exact .ins h0 h1 h2 (e _ h) (q.mono k)
theorem codeO_tbl {c : Addr} {q : Str} (ps : Array Value) : LamX.CodeO c q ≠ .tbl ps := LamX.codeO_ne ps
theorem tabs_mono {T : List (Addr × Str)} (t : LamX.Tabs T H) (e : ∀ b o, H b = some o → (Imm o ∨ ∃ ps, o = .tbl ps) → H' b = some o) : LamX.Tabs T H' := fun p hp => by
  obtain ⟨ps, h1, h2, h3⟩ := t p hp
  refine ⟨ps, e _ _ h1 (.inr ⟨ps, rfl⟩), h2, fun pos cv hc => ?_⟩
  obtain ⟨c, e1, e2⟩ := h3 pos cv hc
  exact ⟨c, e1, e _ _ e2 (.inl trivial)⟩
/-- a new object that φ does not tell of -/
theorem keep_new {p : Addr} {o : HO} (hp : H p = none) : Keep φ φ H (upd H p o) :=
  ⟨fun a u h _ => by rw [upd_ne (ne_of_none h hp)]; exact h, fun a u h _ _ => by rw [upd_ne (ne_of_none h hp)]; exact h, fun a u h => ⟨u, by rw [upd_ne (ne_of_none h hp)]; exact h⟩, [], (List.append_nil _).symm, fun _ z => nomatch z⟩
theorem keep_add {p : Addr} {o : HO} (hp : H p = none) : Keep φ (φ ++ [p]) H (upd H p o) :=
  ⟨fun a u h _ => by rw [upd_ne (ne_of_none h hp)]; exact h, fun a u h _ _ => by rw [upd_ne (ne_of_none h hp)]; exact h, fun a u h => ⟨u, by rw [upd_ne (ne_of_none h hp)]; exact h⟩, [p], rfl, fun a z => by simp at z; subst z; exact hp⟩
theorem Rel.new (R : Rel S φ M H) {p : Addr} {o : HO} (hp : H p = none) : Rel S φ M (upd H p o) :=
  ⟨R.len, R.nd, fun n b a h1 h2 => (R.ob n b a h1 h2).mono (keep_new hp) fun u h => by rw [upd_ne (ne_of_none h hp)]; exact h, tabs_mono R.tab fun b u h _ => by rw [upd_ne (ne_of_none h hp)]; exact h⟩
/-- a new object of the small heap -/
theorem Rel.add (R : Rel S φ M H) {p : Addr} {o : HO} {ob : Ob} (hp : H p = none) (r : RO S (φ ++ [p]) (upd H p o) ob p) : Rel S (φ ++ [p]) (M ++ [ob]) (upd H p o) := by
  refine ⟨by rw [List.length_append, List.length_append, R.len]; rfl, ?_, fun n b a h1 h2 => ?_, tabs_mono R.tab fun b u h _ => by rw [upd_ne (ne_of_none h hp)]; exact h⟩
  · exact List.nodup_append.mpr ⟨R.nd, by simp, fun a h b hb => by
      simp at hb; subst hb
      exact fun z => R.out hp (by rw [← z]; exact h)⟩
  · by_cases hn : n < φ.length
    · rw [List.getElem?_append_left hn] at h2
      rw [List.getElem?_append_left (by rw [← R.len]; exact hn)] at h1
      exact (R.ob n b a h1 h2).mono (keep_add hp) fun u h => by rw [upd_ne (ne_of_none h hp)]; exact h
    · have hn' : n = φ.length := by
        have := (List.getElem?_eq_some_iff.mp h2).1
        rw [List.length_append] at this
        simp at this; omega
      subst hn'
      rw [List.getElem?_append_right (Nat.le_refl _)] at h2
      rw [R.len, List.getElem?_append_right (Nat.le_refl _)] at h1
      simp at h1 h2
      subst h1 h2
      exact r
theorem keep_set {a : Addr} {o u : HO} (hm : a ∈ φ) (h : H a = some u) (hi : ¬ Imm u) : Keep φ φ H (upd H a o) :=
  ⟨fun b v hb i => by
    have : b ≠ a := fun z => by subst z; rw [h] at hb; cases hb; exact hi i
    rw [upd_ne this]; exact hb, fun b v hb n _ => by rw [upd_ne (fun z => n (by rw [z]; exact hm))]; exact hb, fun b v hb => by
    by_cases z : b = a
    · subst z; exact ⟨o, upd_same⟩
    · exact ⟨v, by rw [upd_ne z]; exact hb⟩, [], (List.append_nil _).symm, fun _ z => nomatch z⟩
/-- an object of the small heap changes -/
theorem Rel.set (R : Rel S φ M H) {n : Nat} {a : Addr} {o : HO} {ob : Ob} (hn : φ[n]? = some a) (r : RO S φ (upd H a o) ob a) : Keep φ φ H (upd H a o) ∧ Rel S φ (M.set n ob) (upd H a o) := by
  have hm : a ∈ φ := List.mem_of_getElem? hn
  obtain ⟨u, hu, hi, ht⟩ := R.mem hm
  have k : Keep φ φ H (upd H a o) := keep_set hm hu hi
  refine ⟨k, by rw [List.length_set]; exact R.len, R.nd, fun m b c h1 h2 => ?_, tabs_mono R.tab fun b v h hv => ?_⟩
  · by_cases hmn : n = m
    · subst hmn
      rw [hn] at h2; cases h2
      have hl : n < M.length := by
        have := (List.getElem?_eq_some_iff.mp hn).1
        rw [R.len] at this; exact this
      rw [List.getElem?_set_self hl] at h1
      cases h1
      exact r
    · rw [List.getElem?_set_ne hmn] at h1
      refine (R.ob m b c h1 h2).mono k fun v h => ?_
      have : c ≠ a := fun z => hmn (by
        subst z
        exact (List.getElem?_inj (List.getElem?_eq_some_iff.mp hn).1 R.nd).mp (hn.trans h2.symm))
      rw [upd_ne this]; exact h
  · have : b ≠ a := fun z => by
      subst z
      rw [hu] at h; cases h
      rcases hv with i | ⟨ps, e⟩
      · exact hi i
      · exact ht ps e
    rw [upd_ne this]; exact h
end
end Mi
end
section
set_option Elab.async false
set_option linter.all false
set_option maxRecDepth 100000
/-! S2: what a slot holds, contexts, the ends of an evaluation. -/
namespace Mi
open PySem PySem.Spec PyProof.Rows
open L2 (V Hp HO SqL SqT RelV upd upd_same upd_ne ne_of ne_of_none Key Cx Inv PE PT PW PA PC TE TT TA VK Vis Takes WX XK Room)

/-- what a slot may hold: data, a closure, a handled exception -/
inductive RS (S : Link) (base : Heap) : List (Addr × PySem.Obj) → List Addr → Hp → Val → V → Prop
  | d {pn : List (Addr × PySem.Obj)} {φ : List Addr} {H : Hp} {v : Val} {x : V} : v.isD = true → RD S φ H v x → RS S base pn φ H v x
  | clo {pn : List (Addr × PySem.Obj)} {φ : List Addr} {H : Hp} {ps : List Nat} {b : Ex} {σ : Sl} {N : List Str} {sc scope : Scope} {q : Str} {a : Arguments} {body : Expr} {cl : List (Str × Addr)} {pm ct : Value} {f c' : Addr} (XX : Nat → V) :
      N.Nodup → σ.length = N.length → lamB N sc scope ps a = true → chk S.T false N scope b body = true →
      H f = some (FunO f (lamOb q a body scope cl pm c' ct)) → H c' = some (LamX.CodeO c' q) →
      (∀ x y c, cl.lookup x = some c → cl.lookup y = some c → x = y) →
      (∀ x c, cl.lookup x = some c → ∃ o v, base.get? c = some o ∧ o.data = .cell v) →
      (∀ y, scope.names.lookup y = some .free → ∃ c, cl.lookup y = some c) →
      (∀ i y c v, N[i]? = some y → scope.names.lookup y = some .free → σ[i]? = some (some v) → cl.lookup y = some c → ∃ u, base.IsCell c (some u) ∧ RelV (XX i) u) →
      (∀ i y v, N[i]? = some y → scope.names.lookup y = some .free → σ[i]? = some (some v) → RS S base [] φ H v (XX i)) →
      RS S base pn φ H (.clo ps b σ) (.ref f)
  | exv {pn : List (Addr × PySem.Obj)} {φ : List Addr} {H : Hp} {c : Nm} {s : Str} {fs : List (Nm × Val)} {ys : List (Str × V)} {a C d : Addr} {oe : PySem.Obj} :
      (a, oe) ∈ pn → L2.Zc (.ref C) (some d) oe → (∃ vs, oe.data = .fields vs) → S.T.names[c]? = some s → S.mg s = some (.ref C) → H d = some (.xd ys) → RFs S φ H fs ys →
      RS S base pn φ H (.exv c fs) (.ref a)
theorem RS.pn {S : Link} {base : Heap} {pn pn' : List (Addr × PySem.Obj)} {φ : List Addr} {H : Hp} {v : Val} {x : V} (r : RS S base pn φ H v x) (h : v.isX = false) : RS S base pn' φ H v x := by
  cases r with
  | d h r => exact .d h r
  | clo XX h1 h2 h3 h4 h5 h6 h7 h8 h9 h10 h11 => exact .clo XX h1 h2 h3 h4 h5 h6 h7 h8 h9 h10 h11
  | exv => cases h
/-- the slots -/
structure SR' (S : Link) (N : List Str) (sc : Scope) (base : Heap) (pn : List (Addr × PySem.Obj)) (φ : List Addr) (H : Hp) (σ : Sl) (σV : L2.St) : Prop where
  len : σ.length = N.length
  lv : σV.length = N.length
  at_ : ∀ (i : Nat) (y : Str) (v : Val), σ[i]? = some (some v) → N[i]? = some y → Vis sc y → ∃ x, σV[i]? = some (some x) ∧ RS S base pn φ H v x
abbrev SR (S : Link) (X : Cx) (φ : List Addr) (H : Hp) (σ : Sl) (σV : L2.St) : Prop := SR' S X.N X.env.scope X.base X.pn φ H σ σV

theorem RS.mono {S : Link} {base : Heap} {pn : List (Addr × PySem.Obj)} {φ φ' : List Addr} {H H' : Hp} (k : Keep φ φ' H H') {v : Val} {x : V} (r : RS S base pn φ H v x) : RS S base pn φ' H' v x := by
  induction r with
  | d h r => exact .d h (r.mono k)
  | clo XX h1 h2 h3 h4 h5 h6 h7 h8 h9 h10 _ ih => exact .clo XX h1 h2 h3 h4 (k.imm _ _ h5 trivial) (k.imm _ _ h6 trivial) h7 h8 h9 h10 fun i y v a b c => ih i y v a b c k
  | exv h1 h2 h3 h4 h5 h6 h7 => exact .exv h1 h2 h3 h4 h5 (k.imm _ _ h6 trivial) (h7.mono k)
theorem RS.base {S : Link} {base base' : Heap} {pn : List (Addr × PySem.Obj)} {φ : List Addr} {H : Hp} (k : ∀ b o, base.get? b = some o → base'.get? b = some o) {v : Val} {x : V} (r : RS S base pn φ H v x) : RS S base' pn φ H v x := by
  induction r with
  | d h r => exact .d h r
  | clo XX h1 h2 h3 h4 h5 h6 h7 h8 h9 h10 _ ih =>
    refine .clo XX h1 h2 h3 h4 h5 h6 h7 (fun x c e => ?_) h9 (fun i y c v a b e d => ?_) ih
    · obtain ⟨o, v, e1, e2⟩ := h8 x c e
      exact ⟨o, v, k _ _ e1, e2⟩
    · obtain ⟨u, ⟨o, e1, e2⟩, r⟩ := h10 i y c v a b e d
      exact ⟨u, ⟨o, k _ _ e1, e2⟩, r⟩
  | exv h1 h2 h3 h4 h5 h6 h7 => exact .exv h1 h2 h3 h4 h5 h6 h7
theorem RS.data {S : Link} {base : Heap} {pn : List (Addr × PySem.Obj)} {φ : List Addr} {H : Hp} {v : Val} {x : V} (r : RS S base pn φ H v x) (h : v.isD = true) : RD S φ H v x := by
  cases r with
  | d _ r => exact r
  | clo => cases h
  | exv => cases h
theorem SR.mono {S : Link} {X : Cx} {φ φ' : List Addr} {H H' : Hp} {σ : Sl} {σV : L2.St} (k : Keep φ φ' H H') (r : SR S X φ H σ σV) : SR S X φ' H' σ σV :=
  ⟨r.len, r.lv, fun i y v a b c => let ⟨x, e, q⟩ := r.at_ i y v a b c; ⟨x, e, q.mono k⟩⟩
/-- values of expressions -/
inductive RSs (S : Link) (base : Heap) (pn : List (Addr × PySem.Obj)) (φ : List Addr) (H : Hp) : List Val → List V → Prop
  | nil : RSs S base pn φ H [] []
  | cons {v : Val} {vs : List Val} {x : V} {xs : List V} : RS S base pn φ H v x → RSs S base pn φ H vs xs → RSs S base pn φ H (v :: vs) (x :: xs)
theorem RSs.mono {S : Link} {base : Heap} {pn : List (Addr × PySem.Obj)} {φ φ' : List Addr} {H H' : Hp} (k : Keep φ φ' H H') : ∀ {v : List Val} {x : List V}, RSs S base pn φ H v x → RSs S base pn φ' H' v x
  | _, _, .nil => .nil
  | _, _, .cons r t => .cons (r.mono k) (RSs.mono k t)
theorem RSs.data {S : Link} {base : Heap} {pn : List (Addr × PySem.Obj)} {φ : List Addr} {H : Hp} : ∀ {v : List Val} {x : List V}, RSs S base pn φ H v x → allD v = true → RDs S φ H v x
  | _, _, .nil, _ => .nil
  | v :: vs, _, .cons r t, h => by
    have h' : (v.isD && allD vs) = true := h
    rw [Bool.and_eq_true] at h'
    exact .cons (r.data h'.1) (RSs.data t h'.2)
theorem RDs.rss {S : Link} {base : Heap} {pn : List (Addr × PySem.Obj)} {φ : List Addr} {H : Hp} : ∀ {v : List Val} {x : List V}, RDs S φ H v x → allD v = true → RSs S base pn φ H v x
  | _, _, .nil, _ => .nil
  | v :: vs, _, .cons r t, h => by
    have h' : (v.isD && allD vs) = true := h
    rw [Bool.and_eq_true] at h'
    exact .cons (.d h'.1 r) (RDs.rss t h'.2)
theorem RSs.length {S : Link} {base : Heap} {pn : List (Addr × PySem.Obj)} {φ : List Addr} {H : Hp} : ∀ {v : List Val} {x : List V}, RSs S base pn φ H v x → v.length = x.length
  | _, _, .nil => rfl
  | _, _, .cons _ t => congrArg (· + 1) (RSs.length t)

/-- data is data: what RD relates bears no closure -/
theorem RD.isD {S : Link} {φ : List Addr} {H : Hp} {v : Val} {x : V} (r : RD S φ H v x) : v.isD = true := by cases r <;> rfl
theorem RDs.allD {S : Link} {φ : List Addr} {H : Hp} : ∀ {v : List Val} {x : List V}, RDs S φ H v x → Mi.allD v = true
  | _, _, .nil => rfl
  | _, _, .cons r t => by
    show (_ && _) = true
    rw [r.isD, RDs.allD t]; rfl

/-! ### ends -/
abbrev WQ := Value → Option Addr → Hp → Prop
/-- what holds at the end of a run of the small language -/
def TV {α β : Type} (S : Link) (RV : List Addr → Hp → α → β → Prop) (φ : List Addr) (H : Hp) (r : R α) (Q : β → Hp → Prop) (W : WQ) : Prop :=
  match r with
  | .ok v M' => ∀ (φ' : List Addr) (H' : Hp) (x : β), Rel S φ' M' H' → Keep φ φ' H H' → RV φ' H' v x → Q x H'
  | .exc e M' => ∀ (φ' : List Addr) (H' : Hp) (C : Addr) (s : Str) (d : Addr) (ys : List (Str × V)), Rel S φ' M' H' → Keep φ φ' H H' → S.T.names[e.cls]? = some s → S.mg s = some (.ref C) → H' d = some (.xd ys) → RFs S φ' H' e.fs ys → W (.ref C) (some d) H'
  | .err => False
section
variable {α β γ δ : Type} {S : Link} {φ φ1 : List Addr} {H H1 : Hp} {M : Mem} {W : WQ}
theorem TV.keep {RV : List Addr → Hp → α → β → Prop} {r : R α} {Q : β → Hp → Prop} (k : Keep φ φ1 H H1) (h : TV S RV φ H r Q W) : TV S RV φ1 H1 r Q W := by
  cases r with
  | ok v M' => exact fun φ' H' x R K r => h φ' H' x R (k.trans K) r
  | exc e M' => exact fun φ' H' C s d ys R K => h φ' H' C s d ys R (k.trans K)
  | err => exact h
theorem TV.mono {RV : List Addr → Hp → α → β → Prop} {r : R α} {Q Q' : β → Hp → Prop} (h : TV S RV φ H r Q W) (q : ∀ x H', Q x H' → Q' x H') : TV S RV φ H r Q' W := by
  cases r with
  | ok v M' => exact fun φ' H' x R K r => q _ _ (h φ' H' x R K r)
  | exc e M' => exact h
  | err => exact h
/-- one run, then another -/
theorem TV.bind {RV : List Addr → Hp → α → β → Prop} {RW : List Addr → Hp → γ → δ → Prop} {r : R α} {f : α → Mem → R γ} {Q : δ → Hp → Prop} (h : TV S RW φ H (r.bind f) Q W) :
    TV S RV φ H r (fun x H1 => ∃ φ1 v M1, Rel S φ1 M1 H1 ∧ Keep φ φ1 H H1 ∧ RV φ1 H1 v x ∧ TV S RW φ1 H1 (f v M1) Q W) W := by
  cases r with
  | ok v M' => exact fun φ' H' x R K r => ⟨φ', v, M', R, K, r, TV.keep K h⟩
  | exc e M' => exact h
  | err => exact h
theorem TV.ok {RV : List Addr → Hp → α → β → Prop} {v : α} {Q : β → Hp → Prop} {x : β} (R : Rel S φ M H) (r : RV φ H v x) (h : TV S RV φ H (.ok v M) Q W) : Q x H := h φ H x R (Keep.refl _ _) r
end

/-! ### contexts -/
/-- what is asked of the ground of a run -/
structure GoodB (S : Link) (base : Heap) : Prop where
  mod : L2.Mod S.K S.mg base
  tab : ∀ c P q, (c, P, q) ∈ S.cods → LamX.TabB base S.mg c P
/-- a context of the small language's code; k calls may stand one in another -/
structure Good (S : Link) (k : Nat) (X : Cx) : Prop where
  prog : X.prog = S.P
  w : X.w = S.w
  K : X.K = S.K
  mg : X.mg = S.mg
  nd : X.N.Nodup
  names : S.T.names.Nodup
  calm : X.calm = true
  room : Room (2 * k + 1) X.A
  gb : GoodB S X.base
  free : ∀ x ∈ S.T.free, S.mg x = none
/-- the values of an expression, at X -/
abbrev RX (S : Link) (X : Cx) : List Addr → Hp → Val → V → Prop := fun φ H v x => RS S X.base X.pn φ H v x
/-- the reading of what the small language evaluates -/
def tE {α β : Type} (S : Link) (X : Cx) (W : WX) (RV : List Addr → Hp → α → β → Prop) (f : Sl → Mem → R α) : L2.St → Hp → (β → Hp → Prop) → Prop :=
  fun σV H Q => ∃ φ σ M, Rel S φ M H ∧ SR S X φ H σ σV ∧ TV S RV φ H (f σ M) Q fun c d H' => W c d σV H'
theorem PE_imp {X : Cx} {e : Expr} {t u : TE} (h : PE X e t) (i : ∀ σ H Q, u σ H Q → t σ H Q) : PE X e u := ⟨fun pins s σ H Q I hu => h.run pins s σ H Q I (i σ H Q hu)⟩
theorem PT_imp {X : Cx} {e : Expr} {t u : TT} (h : PT X e t) (i : ∀ σ H Q, u σ H Q → t σ H Q) : PT X e u := ⟨fun pins s σ H Q I hu => h.run pins s σ H Q I (i σ H Q hu)⟩
theorem PA_imp {X : Cx} {e : List Expr} {t u : TA} (h : PA X e t) (i : ∀ σ H Q, u σ H Q → t σ H Q) : PA X e u := ⟨fun pos pins s σ H Q I hu => h.run pos pins s σ H Q I (i σ H Q hu)⟩
/-- two runs in a row -/
theorem tE_bind {α β γ δ : Type} {S : Link} {X : Cx} {W : WX} {RV : List Addr → Hp → α → β → Prop} {RW : List Addr → Hp → γ → δ → Prop} {f : Sl → Mem → R α} {g : Sl → α → Mem → R γ} {σV : L2.St} {H : Hp} {Q : δ → Hp → Prop}
    (h : tE S X W RW (fun σ M => (f σ M).bind (g σ)) σV H Q) :
    tE S X W RV f σV H fun x H1 => ∃ φ1 σ v M1, Rel S φ1 M1 H1 ∧ SR S X φ1 H1 σ σV ∧ RV φ1 H1 v x ∧ TV S RW φ1 H1 (g σ v M1) Q fun c d H' => W c d σV H' := by
  obtain ⟨φ, σ, M, R, sr, h⟩ := h
  exact ⟨φ, σ, M, R, sr, (TV.bind h).mono fun x H1 ⟨φ1, v, M1, R1, K1, r1, h1⟩ => ⟨φ1, σ, v, M1, R1, sr.mono K1, r1, h1⟩⟩
theorem tE_mono {α β : Type} {S : Link} {X : Cx} {W : WX} {RV : List Addr → Hp → α → β → Prop} {f : Sl → Mem → R α} {σV : L2.St} {H : Hp} {Q Q' : β → Hp → Prop} (h : tE S X W RV f σV H Q) (q : ∀ x H', Q x H' → Q' x H') : tE S X W RV f σV H Q' := by
  obtain ⟨φ, σ, M, R, sr, h⟩ := h
  exact ⟨φ, σ, M, R, sr, h.mono q⟩
end Mi
end
section
set_option Elab.async false
set_option linter.all false
set_option maxRecDepth 100000
/-! S3: operators on values. -/
namespace Mi
open PySem PySem.Spec PyProof.Rows
open L2 (V Hp HO SqL SqT RelV upd upd_same upd_ne ne_of ne_of_none Key Cx Inv PE PT PW PA PC TE TT TA VK Vis Takes WX XK Room OpR)

section
variable {S : Link} {base : Heap} {pn : List (Addr × PySem.Obj)} {φ : List Addr} {H : Hp} {x : V} {M : Mem}
theorem RS.int_ {i : Int} (r : RS S base pn φ H (.int i) x) : x = .int i := by cases r.data rfl; rfl
theorem RS.bl_ {i : Bool} (r : RS S base pn φ H (.bl i) x) : x = .bl i := by cases r.data rfl; rfl
theorem RS.str_ {i : Str} (r : RS S base pn φ H (.str i) x) : x = .str i := by cases r.data rfl; rfl
theorem RS.non_ (r : RS S base pn φ H .non x) : x = .non := by cases r.data rfl; rfl
theorem RS.tup_ {vs : List Val} (r : RS S base pn φ H (.tup vs) x) : ∃ a xs, x = .ref a ∧ SqT S.K H a xs ∧ RDs S φ H vs xs := by
  cases r.data rfl with
  | tup h q => exact ⟨_, _, rfl, h, q⟩
theorem RS.rl_ {vs : List Val} (r : RS S base pn φ H (.rl vs) x) : ∃ a xs, x = .ref a ∧ SqL S.K H a xs ∧ RDs S φ H vs xs ∧ ((∃ o, H a = some (.frz o (.lst xs))) ∨ SqL S.K (fun _ => none) a xs) := by
  cases r.data rfl with
  | @rl _ xs a o h q =>
    refine ⟨a, xs, rfl, ?_, q, h.imp (fun h => ⟨_, h⟩) id⟩
    rcases h with h | h
    · exact .inl (.inr ⟨_, h⟩)
    · rcases h with (h | ⟨o, h⟩) | h
      · cases h
      · cases h
      · exact .inr h
theorem RS.ref_ {n : Nat} (r : RS S base pn φ H (.ref n) x) : ∃ a, x = .ref a ∧ φ[n]? = some a := by
  cases r.data rfl with
  | ref h => exact ⟨_, rfl, h⟩
theorem Rel.lst (R : Rel S φ M H) {n : Nat} {a : Addr} {vs : List Val} (hn : φ[n]? = some a) (h : M[n]? = some (.lst vs)) : ∃ xs, H a = some (.lst xs) ∧ RDs S φ H vs xs := by
  cases R.ob n _ a h hn with
  | lst h r => exact ⟨_, h, r⟩
theorem Rel.ins (R : Rel S φ M H) {n : Nat} {a : Addr} {c : Nm} {fs : List (Nm × Val)} (hn : φ[n]? = some a) (h : M[n]? = some (.ins c fs)) :
    ∃ s C dx ys, S.Pr.env.isCls c = true ∧ S.T.names[c]? = some s ∧ S.mg s = some (.ref C) ∧ H a = some (.ins C dx ys) ∧ RFs S φ H fs ys := by
  cases R.ob n _ a h hn with
  | ins h0 h1 h2 h3 r => exact ⟨_, _, _, _, h0, h1, h2, h3, r⟩
theorem lsOf_lst {n : Nat} {vs : List Val} (h : lsOf M n = some vs) : M[n]? = some (.lst vs) := by
  unfold lsOf at h
  split at h
  · rename_i e; cases h; exact e
  · cases h
end
theorem line_le {n : Nat} (h : decide (n ≤ lineN) = true) : n ≤ sizeLine := by
  have h := of_decide_eq_true h
  unfold lineN at h
  rw [sizeLine_eq]; omega
theorem log_bits (i : Int) : Builtin.Int.intBits i ≤ i.natAbs.log2 + 1 := by
  unfold Builtin.Int.intBits
  split <;> omega
theorem mulOk_X {i j : Int} (h : mulOk i j = true) : L2.CMulX i j := by
  have h := of_decide_eq_true (show decide (i.natAbs.log2 + j.natAbs.log2 < 100000000) = true from h)
  have h1 := log_bits i
  have h2 := log_bits j
  show (Builtin.Int.intBits i : Int) + (Builtin.Int.intBits j : Int) ≤ 134217728
  omega
theorem divOk_W {i j : Int} (h : divOk j = true) : L2.CDivW i j := by
  obtain ⟨h1, h2⟩ := Bool.and_eq_true_iff.mp (show (decide (0 < j) && decide (j.natAbs.log2 < 9000)) = true from h)
  exact ⟨of_decide_eq_true h1, of_decide_eq_true h2⟩
theorem powOk_C {i j : Int} (h : powOk i j = true) : L2.CPow i j := by
  obtain ⟨h1, h2⟩ := Bool.and_eq_true_iff.mp (show (decide (0 ≤ j) && decide (j ≤ 1000000) && decide (i.natAbs < 18446744073709551616)) = true from h)
  obtain ⟨h0, h1⟩ := Bool.and_eq_true_iff.mp h1
  refine ⟨of_decide_eq_true h0, of_decide_eq_true h1, ?_⟩
  have := of_decide_eq_true h2
  have e : (2 : Nat) ^ 64 = 18446744073709551616 := by decide
  omega

/-- what a two-place operation is to be -/
def rO (S : Link) (X : Cx) (f : Val → Val → Mem → R Val) : L2.R2 := fun x y H Q => ∃ φ M v w, Rel S φ M H ∧ RX S X φ H v x ∧ RX S X φ H w y ∧ TV S (RX S X) φ H (f v w M) Q fun _ _ _ => False
section
variable {S : Link} {k : Nat} {X : Cx}
theorem op_bin (G : Good S k X) {op : BOp} {o : Operator} (hc : chkB op o = true) : OpR X (binaryOp o) (rO S X (binop op)) := by
  have eK := G.K
  intro pins s σ H x y v u Q I rx ry ⟨φ, M, a, b, R, ra, rb, h⟩
  cases op with
  | add =>
    cases o <;> first | (cases hc; done) | skip
    unfold binop at h
    dsimp only at h
    split at h
    · rename_i i j
      rw [ra.int_] at rx
      rw [rb.int_] at ry
      exact L2.op_add pins s σ H _ _ v u Q I rx ry ⟨i, j, rfl, rfl, TV.ok R (.d rfl (.int _)) h⟩
    · rename_i i j
      rw [ra.str_] at rx
      rw [rb.str_] at ry
      split at h
      · rename_i hz
        exact L2.op_add_str pins s σ H _ _ v u Q I rx ry ⟨i, j, rfl, rfl, line_le hz, TV.ok R (.d rfl (.str _)) h⟩
      · exact h.elim
    · rename_i vs ws
      obtain ⟨a, xs, rfl, hx, rxs⟩ := ra.tup_
      obtain ⟨b, ys, rfl, hy, rys⟩ := rb.tup_
      split at h
      · rename_i hz
        have hz := line_le hz
        rw [rxs.length, rys.length] at hz
        refine L2.op_catA pins s σ H _ _ v u Q I rx ry ⟨a, b, xs, ys, rfl, rfl, by rw [eK]; exact hx, by rw [eK]; exact hy, hz, fun e => ?_, fun _ e => ?_, fun _ _ p hp => ?_⟩
        · subst e
          cases rxs
          exact TV.ok R (.d rfl (.tup hy (by simpa using rys))) h
        · subst e
          cases rys
          exact TV.ok R (.d rfl (.tup hx (by simpa using rxs))) h
        · have K : Keep φ φ H (upd H p (.tup (xs ++ ys))) := keep_new hp
          exact h φ _ (.ref p) (R.new hp) K (.d rfl (.tup (.inl (.inl upd_same)) ((rxs.append rys).mono K)))
      · exact h.elim
    · rename_i n m
      split at h
      · rename_i vs ws e1 e2
        obtain ⟨a, rfl, ha⟩ := ra.ref_
        obtain ⟨b, rfl, hb⟩ := rb.ref_
        obtain ⟨xs, hx, rxs⟩ := R.lst ha (lsOf_lst e1)
        obtain ⟨ys, hy, rys⟩ := R.lst hb (lsOf_lst e2)
        split at h
        · rename_i hz
          have hz := line_le hz
          rw [rxs.length, rys.length] at hz
          refine L2.op_cat pins s σ H _ _ v u Q I rx ry ⟨a, b, xs, ys, rfl, rfl, hx, hy, hz, fun p hp => ?_⟩
          have K : Keep φ (φ ++ [p]) H (upd H p (.lst (xs ++ ys))) := keep_add hp
          refine h _ _ (.ref p) (R.add hp (.lst upd_same ((rxs.append rys).mono K))) K (.d rfl (.ref ?_))
          rw [← R.len, List.getElem?_append_right (Nat.le_refl _)]
          simp
        · exact h.elim
      · exact h.elim
    · exact h.elim
  | sub =>
    cases o <;> first | (cases hc; done) | skip
    unfold binop at h
    dsimp only at h
    split at h
    · rename_i i j
      rw [ra.int_] at rx
      rw [rb.int_] at ry
      exact L2.op_sub pins s σ H _ _ v u Q I rx ry ⟨i, j, rfl, rfl, TV.ok R (.d rfl (.int _)) h⟩
    · exact h.elim
  | mul =>
    cases o <;> first | (cases hc; done) | skip
    unfold binop at h
    dsimp only at h
    split at h
    · rename_i i j
      rw [ra.int_] at rx
      rw [rb.int_] at ry
      split at h
      · rename_i hm
        exact L2.op_mulX pins s σ H _ _ v u Q I rx ry ⟨i, j, rfl, rfl, mulOk_X hm, TV.ok R (.d rfl (.int _)) h⟩
      · exact h.elim
    · exact h.elim
  | fdiv =>
    cases o <;> first | (cases hc; done) | skip
    unfold binop at h
    dsimp only at h
    split at h
    · rename_i i j
      rw [ra.int_] at rx
      rw [rb.int_] at ry
      split at h
      · rename_i hm
        exact L2.op_fdivW pins s σ H _ _ v u Q I rx ry ⟨i, j, rfl, rfl, divOk_W hm, TV.ok R (.d rfl (.int _)) h⟩
      · exact h.elim
    · exact h.elim
  | mod =>
    cases o <;> first | (cases hc; done) | skip
    unfold binop at h
    dsimp only at h
    split at h
    · rename_i i j
      rw [ra.int_] at rx
      rw [rb.int_] at ry
      split at h
      · rename_i hm
        exact L2.op_mod pins s σ H _ _ v u Q I rx ry ⟨i, j, rfl, rfl, of_decide_eq_true hm, TV.ok R (.d rfl (.int _)) h⟩
      · exact h.elim
    · exact h.elim
  | pow =>
    cases o <;> first | (cases hc; done) | skip
    unfold binop at h
    dsimp only at h
    split at h
    · rename_i i j
      rw [ra.int_] at rx
      rw [rb.int_] at ry
      split at h
      · rename_i hm
        exact L2.op_pow pins s σ H _ _ v u Q I rx ry ⟨i, j, rfl, rfl, powOk_C hm, TV.ok R (.d rfl (.int _)) h⟩
      · exact h.elim
    · exact h.elim
  | shl => exact (show False from h).elim
  | shr => exact (show False from h).elim
end
end Mi
end
section
set_option Elab.async false
set_option linter.all false
set_option maxRecDepth 100000
/-! S4: comparisons, truth, items, slices. -/
namespace Mi
open PySem PySem.Spec PyProof.Rows
open L2 (V Hp HO SqL SqT RelV upd upd_same upd_ne ne_of ne_of_none Key Cx Inv PE PT PW PA PC TE TT TA VK Vis Takes WX XK Room OpR Dp DpAll)

section
variable {S : Link} {φ : List Addr} {H : Hp} {M : Mem}
/-! ### data -/
theorem optAll_dp {f : Nat} (ih : ∀ (v : Val) (x : V) (d : PyData), RD S φ H v x → vdata M f v = some d → Dp S.K H x d ∧ d.depth ≤ f) :
    ∀ {vs : List Val} {xs : List V} {ds : List PyData}, RDs S φ H vs xs → optAll (vdata M f) vs = some ds → DpAll S.K H xs ds ∧ PyData.depthAll ds ≤ f
  | _, _, ds, .nil, e => by
    cases e
    exact ⟨.nil, Nat.zero_le _⟩
  | v :: vs, x :: xs, ds, .cons r t, e => by
    unfold optAll at e
    split at e
    · cases e
    · rename_i y hy
      split at e
      · cases e
      · rename_i ys hys
        cases e
        obtain ⟨h1, h2⟩ := ih v x y r hy
        obtain ⟨h3, h4⟩ := optAll_dp ih t hys
        refine ⟨.cons h1 h3, ?_⟩
        show max _ _ ≤ f
        omega
theorem vdata_dp (R : Rel S φ M H) : ∀ (f : Nat) (v : Val) (x : V) (d : PyData), RD S φ H v x → vdata M f v = some d → Dp S.K H x d ∧ d.depth ≤ f
  | 0, v, x, d, r, e => by cases e
  | f + 1, v, x, d, r, e => by
    unfold vdata at e
    split at e
    · cases e; cases r; exact ⟨.non, Nat.zero_le _⟩
    · cases e; cases r; exact ⟨.bl _, Nat.zero_le _⟩
    · cases e; cases r; exact ⟨.int _, Nat.zero_le _⟩
    · cases e; cases r; exact ⟨.str _, Nat.zero_le _⟩
    · split at e
      · rename_i ds hd
        cases e
        cases r with
        | tup h q =>
          obtain ⟨h1, h2⟩ := optAll_dp (vdata_dp R f) q hd
          exact ⟨.tup h h1, by show _ + 1 ≤ f + 1; omega⟩
      · cases e
    · split at e
      · rename_i ds hd
        cases e
        obtain ⟨a, xs, rfl, h, q, _⟩ := (RS.d (base := default) (pn := []) rfl r).rl_
        obtain ⟨h1, h2⟩ := optAll_dp (vdata_dp R f) q hd
        exact ⟨.lst h h1, by show _ + 1 ≤ f + 1; omega⟩
      · cases e
    · split at e
      · rename_i n _ vs hm
        split at e
        · rename_i ds hd
          cases e
          cases r with
          | ref hn =>
            obtain ⟨xs, h, q⟩ := R.lst hn hm
            obtain ⟨h1, h2⟩ := optAll_dp (vdata_dp R f) q hd
            exact ⟨.lst (.of h) h1, by show _ + 1 ≤ f + 1; omega⟩
        · cases e
      · cases e
    · cases e
theorem shaped_of {d : PyData} {f : Nat} (h : d.canLay0 = true) (hf : d.depth ≤ f) (h6 : f ≤ 60) : SeqAt.shaped d = true := by
  unfold SeqAt.shaped
  rw [h, Bool.true_and]
  exact decide_eq_true (by omega)
end
theorem isD_vdata {M : Mem} {f : Nat} {v : Val} {d : PyData} (h : vdata M f v = some d) : v.isD = true := by
  cases f with
  | zero => cases h
  | succ f => cases v <;> first | rfl | (cases h)

/-- a test by values: what a comparison is to be -/
def rC (S : Link) (X : Cx) (f : Val → Val → Mem → Option Bool) : L2.R2 := fun x y H Q => ∃ φ M v w k, Rel S φ M H ∧ RX S X φ H v x ∧ RX S X φ H w y ∧ f v w M = some k ∧ Q (.bl k) H
section
variable {S : Link} {k : Nat} {X : Cx}
theorem is_bool_gen {M : Model} {A : Around} {Q : Value → Shared → Prop} {E : Value → Shared → Prop} {s : Shared} {x : V} {v : Value} {b : Bool} (r : RelV x v) (h : Q (.bool (v == .bool b)) s) : wpAny M A (compareOp .Is v (.bool b)) Q E s := by
  cases x with
  | non => cases (show v = Value.none from r); exact wpAny_pure h
  | bl _ => cases (show v = Value.bool _ from r); exact wpAny_pure h
  | int _ => obtain ⟨t, rfl⟩ := (show ∃ t, v = Value.int _ t from r); exact wpAny_pure h
  | str _ => obtain ⟨t, rfl⟩ := (show ∃ t, v = Value.str _ t from r); exact wpAny_pure h
  | byt _ => obtain ⟨t, rfl⟩ := (show ∃ t, v = Value.bytes _ t from r); exact wpAny_pure h
  | flt _ => obtain ⟨t, rfl⟩ := (show ∃ t, v = Value.float _ t from r); exact wpAny_pure h
  | ref _ => cases (show v = Value.ref _ from r); exact wpAny_pure h
  | ty _ => cases (show v = Value.type _ from r); exact wpAny_pure h
theorem isnot_bool_gen {M : Model} {A : Around} {Q : Value → Shared → Prop} {E : Value → Shared → Prop} {s : Shared} {x : V} {v : Value} {b : Bool} (r : RelV x v) (h : Q (.bool (!(v == .bool b))) s) : wpAny M A (compareOp .IsNot v (.bool b)) Q E s := by
  cases x with
  | non => cases (show v = Value.none from r); exact wpAny_pure h
  | bl _ => cases (show v = Value.bool _ from r); exact wpAny_pure h
  | int _ => obtain ⟨t, rfl⟩ := (show ∃ t, v = Value.int _ t from r); exact wpAny_pure h
  | str _ => obtain ⟨t, rfl⟩ := (show ∃ t, v = Value.str _ t from r); exact wpAny_pure h
  | byt _ => obtain ⟨t, rfl⟩ := (show ∃ t, v = Value.bytes _ t from r); exact wpAny_pure h
  | flt _ => obtain ⟨t, rfl⟩ := (show ∃ t, v = Value.float _ t from r); exact wpAny_pure h
  | ref _ => cases (show v = Value.ref _ from r); exact wpAny_pure h
  | ty _ => cases (show v = Value.type _ from r); exact wpAny_pure h
/-- what is tells, by the value -/
theorem isV_ok {base : Heap} {pn : List (Addr × PySem.Obj)} {φ : List Addr} {H : Hp} {a b : Val} {x y : V} {v u : Value} {kk : Bool} (e : isV a b = some kk) (ra : RS S base pn φ H a x) (rb : RS S base pn φ H b y) (rx : RelV x v) (ry : RelV y u) :
    (u = Value.none ∧ (v == Value.none) = kk) ∨ ∃ c, u = Value.bool c ∧ (v == Value.bool c) = kk := by
  unfold isV at e
  split at e
  · have hy := rb.non_
    subst hy
    refine .inl ⟨ry, ?_⟩
    rw [rx.none_iff]
    split at e
    · cases e
      rw [ra.non_]; rfl
    · rename_i h
      cases e
      refine decide_eq_false fun z => ?_
      subst z
      cases ra with
      | d _ r => cases r; exact h rfl
  · rename_i c
    have hy := rb.bl_
    subst hy
    refine .inr ⟨c, ry, ?_⟩
    split at e
    · cases e
      have := ra.bl_
      subst this
      cases (show v = Value.bool _ from rx)
      rename_i d
      cases c <;> cases d <;> rfl
    · cases e; have := ra.non_; subst this; cases (show v = Value.none from rx); rfl
    · cases e; have := ra.int_; subst this; obtain ⟨t, rfl⟩ := (show ∃ t, v = Value.int _ t from rx); rfl
    · cases e; have := ra.str_; subst this; obtain ⟨t, rfl⟩ := (show ∃ t, v = Value.str _ t from rx); rfl
    · cases e; obtain ⟨a, xs, rfl, _⟩ := ra.tup_; cases (show v = Value.ref _ from rx); rfl
    · cases e; obtain ⟨a, xs, rfl, _⟩ := ra.rl_; cases (show v = Value.ref _ from rx); rfl
    · cases e; obtain ⟨a, rfl, _⟩ := ra.ref_; cases (show v = Value.ref _ from rx); rfl
    · cases e
  · cases e
theorem datas_some {o : Option PyData} {ds : List PyData} (h : datas o = some ds) : o = some (.list ds) ∨ o = some (.tuple ds) := by
  unfold datas at h
  split at h
  · cases h; exact .inl rfl
  · cases h; exact .inr rfl
  · cases h
theorem vEq_str {M : Mem} {x y : Val} {b : Bool} (h : vEq M x y = some b) : (∃ s t, x = .str s ∧ y = .str t ∧ b = decide (s = t)) ∨
    ∃ d e, vdata M 60 x = some d ∧ vdata M 60 y = some e ∧ d.canLay0 = true ∧ e.canLay0 = true ∧ b = PyData.eqv d e := by
  unfold vEq at h
  split at h
  · cases h
    exact .inl ⟨_, _, rfl, rfl, rfl⟩
  · split at h
    · rename_i d e h1 h2
      split at h
      · rename_i hc
        cases h
        obtain ⟨c1, c2⟩ := Bool.and_eq_true_iff.mp hc
        exact .inr ⟨d, e, h1, h2, c1, c2, rfl⟩
      · cases h
    · cases h
theorem op_cmp (G : Good S k X) {op : COp} {o : CmpOp} (hc : chkC op o = true) : OpR X (compareOp o) (rC S X (cmpop op)) := by
  have eK := G.K
  have hu := G.room.units
  intro pins s σ H x y v u Q I rx ry ⟨φ, M, a, b, kk, R, ra, rb, e, h⟩
  cases op with
  | eq =>
    cases o <;> first | (cases hc; done) | skip
    rcases vEq_str (show vEq M a b = some kk from e) with ⟨s', t', rfl, rfl, rfl⟩ | ⟨d, e', h1, h2, c1, c2, rfl⟩
    · rw [ra.str_] at rx
      rw [rb.str_] at ry
      exact L2.op_eq pins s σ H _ _ v u Q I rx ry ⟨rfl, by simpa using h⟩
    · obtain ⟨p1, q1⟩ := vdata_dp R 60 a x d (ra.data (isD_vdata h1)) h1
      obtain ⟨p2, q2⟩ := vdata_dp R 60 b y e' (rb.data (isD_vdata h2)) h2
      exact L2.op_eqD hu pins s σ H _ _ v u Q I rx ry ⟨d, e', by rw [eK]; exact p1, by rw [eK]; exact p2, shaped_of c1 q1 (Nat.le_refl _), shaped_of c2 q2 (Nat.le_refl _), h⟩
  | ne =>
    cases o <;> first | (cases hc; done) | skip
    have e : (match vEq M a b with | some b => some (!b) | none => none) = some kk := e
    split at e
    · rename_i b' hb
      cases e
      rcases vEq_str hb with ⟨s', t', rfl, rfl, rfl⟩ | ⟨d, e', h1, h2, c1, c2, rfl⟩
      · rw [ra.str_] at rx
        rw [rb.str_] at ry
        exact L2.op_ne pins s σ H _ _ v u Q I rx ry ⟨rfl, by simpa using h⟩
      · obtain ⟨p1, q1⟩ := vdata_dp R 60 a x d (ra.data (isD_vdata h1)) h1
        obtain ⟨p2, q2⟩ := vdata_dp R 60 b y e' (rb.data (isD_vdata h2)) h2
        exact L2.op_neD hu pins s σ H _ _ v u Q I rx ry ⟨d, e', by rw [eK]; exact p1, by rw [eK]; exact p2, shaped_of c1 q1 (Nat.le_refl _), shaped_of c2 q2 (Nat.le_refl _), h⟩
    · cases e
  | lt =>
    cases o <;> first | (cases hc; done) | skip
    unfold cmpop at e
    dsimp only at e
    split at e
    · cases e
      rw [ra.int_] at rx
      rw [rb.int_] at ry
      exact L2.op_lt pins s σ H _ _ v u Q I rx ry ⟨_, _, rfl, rfl, h⟩
    · cases e
      rw [ra.str_] at rx
      rw [rb.str_] at ry
      exact L2.op_lt_str pins s σ H _ _ v u Q I rx ry ⟨_, _, rfl, rfl, h⟩
    · cases e
  | le =>
    cases o <;> first | (cases hc; done) | skip
    unfold cmpop at e
    dsimp only at e
    split at e
    · cases e
      rw [ra.int_] at rx
      rw [rb.int_] at ry
      exact L2.op_le pins s σ H _ _ v u Q I rx ry ⟨_, _, rfl, rfl, h⟩
    · cases e
      rw [ra.str_] at rx
      rw [rb.str_] at ry
      exact L2.op_le_str pins s σ H _ _ v u Q I rx ry ⟨_, _, rfl, rfl, h⟩
    · cases e
  | gt =>
    cases o <;> first | (cases hc; done) | skip
    unfold cmpop at e
    dsimp only at e
    split at e
    · cases e
      rw [ra.int_] at rx
      rw [rb.int_] at ry
      exact L2.op_gt pins s σ H _ _ v u Q I rx ry ⟨_, _, rfl, rfl, h⟩
    · cases e
      rw [ra.str_] at rx
      rw [rb.str_] at ry
      exact L2.op_gt_str pins s σ H _ _ v u Q I rx ry ⟨_, _, rfl, rfl, h⟩
    · cases e
  | ge =>
    cases o <;> first | (cases hc; done) | skip
    unfold cmpop at e
    dsimp only at e
    split at e
    · cases e
      rw [ra.int_] at rx
      rw [rb.int_] at ry
      exact L2.op_ge pins s σ H _ _ v u Q I rx ry ⟨_, _, rfl, rfl, h⟩
    · cases e
      rw [ra.str_] at rx
      rw [rb.str_] at ry
      exact L2.op_ge_str pins s σ H _ _ v u Q I rx ry ⟨_, _, rfl, rfl, h⟩
    · cases e
  | is =>
    cases o <;> first | (cases hc; done) | skip
    rcases isV_ok (show isV a b = some kk from e) ra rb rx ry with ⟨rfl, e2⟩ | ⟨c, rfl, e2⟩
    · exact is_none_gen ⟨.bl kk, H, I, by rw [e2]; rfl, h⟩
    · exact is_bool_gen rx ⟨.bl kk, H, I, by rw [e2]; rfl, h⟩
  | isnot =>
    cases o <;> first | (cases hc; done) | skip
    have e : (match isV a b with | some b => some (!b) | none => none) = some kk := e
    split at e
    · rename_i b' hb
      cases e
      rcases isV_ok hb ra rb rx ry with ⟨rfl, e2⟩ | ⟨c, rfl, e2⟩
      · exact isnot_none_gen ⟨.bl _, H, I, by rw [e2]; rfl, h⟩
      · exact isnot_bool_gen rx ⟨.bl _, H, I, by rw [e2]; rfl, h⟩
    · cases e
  | isin =>
    cases o <;> first | (cases hc; done) | skip
    have e : isIn M a b = some kk := e
    unfold isIn at e
    split at e
    · split at e
      · cases e
        rw [ra.str_] at rx
        rw [rb.str_] at ry
        exact L2.op_in_str pins s σ H _ _ v u Q I rx ry ⟨_, _, rfl, rfl, h⟩
      · cases e
    · split at e
      · rename_i d ds h1 h2
        split at e
        · rename_i hc
          cases e
          obtain ⟨c1, c2⟩ := Bool.and_eq_true_iff.mp hc
          obtain ⟨p1, q1⟩ := vdata_dp R 60 a x d (ra.data (isD_vdata h1)) h1
          rw [← eK] at p1
          obtain ⟨as, r1⟩ := L2.Dp.reads I d x v p1 rx
          have hz : X.A.units + 1 + min (PyData.depthAll ds) d.depth < cLine := by omega
          rcases datas_some h2 with h2 | h2
          · obtain ⟨p2, q2⟩ := vdata_dp R 60 b y _ (rb.data (isD_vdata h2)) h2
            rw [← eK] at p2
            obtain ⟨bs, r2⟩ := L2.Dp.reads I _ y u p2 ry
            exact SeqAt.in_list_reads r2 r1 c2 c1 hz ⟨.bl _, H, I, rfl, h⟩
          · obtain ⟨p2, q2⟩ := vdata_dp R 60 b y _ (rb.data (isD_vdata h2)) h2
            rw [← eK] at p2
            obtain ⟨bs, r2⟩ := L2.Dp.reads I _ y u p2 ry
            exact SeqAt.in_tuple_reads r2 r1 c2 c1 hz ⟨.bl _, H, I, rfl, h⟩
        · cases e
      · cases e
  | notin =>
    cases o <;> first | (cases hc; done) | skip
    have e : (match isIn M a b with | some b => some (!b) | none => none) = some kk := e
    split at e
    · rename_i b' e'
      cases e
      unfold isIn at e'
      split at e'
      · split at e'
        · cases e'
          rw [ra.str_] at rx
          rw [rb.str_] at ry
          exact L2.op_notin_str pins s σ H _ _ v u Q I rx ry ⟨_, _, rfl, rfl, h⟩
        · cases e'
      · split at e'
        · rename_i d ds h1 h2
          split at e'
          · rename_i hc
            cases e'
            obtain ⟨c1, c2⟩ := Bool.and_eq_true_iff.mp hc
            obtain ⟨p1, q1⟩ := vdata_dp R 60 a x d (ra.data (isD_vdata h1)) h1
            rw [← eK] at p1
            obtain ⟨as, r1⟩ := L2.Dp.reads I d x v p1 rx
            have hz : X.A.units + 1 + min (PyData.depthAll ds) d.depth < cLine := by omega
            rcases datas_some h2 with h2 | h2
            · obtain ⟨p2, q2⟩ := vdata_dp R 60 b y _ (rb.data (isD_vdata h2)) h2
              rw [← eK] at p2
              obtain ⟨bs, r2⟩ := L2.Dp.reads I _ y u p2 ry
              exact SeqAt.notIn_list_reads r2 r1 c2 c1 hz ⟨.bl _, H, I, rfl, h⟩
            · obtain ⟨p2, q2⟩ := vdata_dp R 60 b y _ (rb.data (isD_vdata h2)) h2
              rw [← eK] at p2
              obtain ⟨bs, r2⟩ := L2.Dp.reads I _ y u p2 ry
              exact SeqAt.notIn_tuple_reads r2 r1 c2 c1 hz ⟨.bl _, H, I, rfl, h⟩
          · cases e'
        · cases e'
    · cases e

/-! ### truth -/
theorem truthy_V {φ : List Addr} {H : Hp} {M : Mem} {v : Val} {x : V} {b : Bool} {base : Heap} {pn : List (Addr × PySem.Obj)} (R : Rel S φ M H) (r : RS S base pn φ H v x) (e : truthy M v = some b) : L2.TruV S.K x H b := by
  unfold truthy at e
  split at e
  · cases e; rw [r.non_]; exact rfl
  · cases e; rw [r.bl_]; exact rfl
  · cases e; rw [r.int_]; exact rfl
  · rename_i s
    rw [r.str_]
    split at e
    · rename_i hz
      cases e
      refine ⟨line_le hz, ?_⟩
      by_cases z : s.length = 0
      · rw [z]; rfl
      · have h1 : (s.length != 0) = true := by simpa using z
        have h2 : ((s.length : Int) != 0) = true := by simpa using z
        rw [h1, h2]
    · cases e
  · cases e
    obtain ⟨a, xs, rfl, h, q⟩ := r.tup_
    exact .inr (.inl ⟨xs, h, by cases q <;> rfl⟩)
  · cases e
    obtain ⟨a, xs, rfl, h, q, _⟩ := r.rl_
    exact .inl ⟨xs, h, by cases q <;> rfl⟩
  · split at e
    · rename_i hm
      cases e
      obtain ⟨a, rfl, hn⟩ := r.ref_
      obtain ⟨xs, h, q⟩ := R.lst hn hm
      exact .inl ⟨xs, .of h, by cases q <;> rfl⟩
    · rename_i hm
      cases e
      obtain ⟨a, rfl, hn⟩ := r.ref_
      cases R.ob _ _ _ hm hn
    · cases e
  · cases e

/-! ### items -/
theorem RDs.atI {φ : List Addr} {H : Hp} {vs : List Val} {xs : List V} {i : Int} {v : Val} (r : RDs S φ H vs xs) (e : L2.atI vs i = some v) : ∃ x, L2.atI xs i = some x ∧ RD S φ H v x := by
  unfold L2.atI at e ⊢
  rw [← r.length]
  cases h : L2.ixN vs.length i with
  | none => rw [h] at e; cases e
  | some j =>
    rw [h] at e
    exact r.get e
def rIx (S : Link) (X : Cx) : L2.R2 := fun x y H Q => ∃ φ M v w z, Rel S φ M H ∧ RX S X φ H v x ∧ RX S X φ H w y ∧ item M v w = some z ∧ ∀ zx, RX S X φ H z zx → Q zx H
theorem ix_ok (G : Good S k X) : L2.IxR X (rIx S X) := by
  have eK := G.K
  intro value slice pins s σ H x y v u Q I rx ry ⟨φ, M, a, b, z, R, ra, rb, e, h⟩ hs
  unfold item at e
  split at e
  · split at e
    · rename_i hz
      split at e
      · rename_i c hc
        cases e
        rw [ra.str_] at rx
        rw [rb.int_] at ry
        exact L2.ix_str value slice pins s σ H _ _ v u Q I rx ry ⟨_, _, c, rfl, rfl, line_le hz, hc, h _ (.d rfl (.str _))⟩ hs
      · cases e
    · cases e
  · obtain ⟨p, xs, rfl, hx, q⟩ := ra.tup_
    rw [rb.int_] at ry
    obtain ⟨zx, e2, rz⟩ := q.atI e
    exact L2.ix_tup value slice pins s σ H _ _ v u Q I rx ry ⟨p, xs, _, zx, rfl, rfl, by rw [eK]; exact hx, e2, h _ (.d rz.isD rz)⟩ hs
  · obtain ⟨p, xs, rfl, hx, q, _⟩ := ra.rl_
    rw [rb.int_] at ry
    obtain ⟨zx, e2, rz⟩ := q.atI e
    exact L2.ix_list value slice pins s σ H _ _ v u Q I rx ry ⟨p, xs, _, zx, rfl, rfl, by rw [eK]; exact hx, e2, h _ (.d rz.isD rz)⟩ hs
  · split at e
    · rename_i vs hm
      obtain ⟨p, rfl, hn⟩ := ra.ref_
      obtain ⟨xs, hx, q⟩ := R.lst hn (lsOf_lst hm)
      rw [rb.int_] at ry
      obtain ⟨zx, e2, rz⟩ := q.atI e
      exact L2.ix_list value slice pins s σ H _ _ v u Q I rx ry ⟨p, xs, _, zx, rfl, rfl, .of hx, e2, h _ (.d rz.isD rz)⟩ hs
    · cases e
  · cases e

/-! ### slices -/
theorem RDs.cut {φ : List Addr} {H : Hp} {vs : List Val} {xs : List V} (lo hi : Option Int) (r : RDs S φ H vs xs) : RDs S φ H (cut vs lo hi) (L2.cutV xs lo hi) := by
  unfold Mi.cut L2.cutV
  rw [r.length]
  exact (r.drop _).take _
theorem cut_whole {α : Type} {xs : List α} {lo hi : Option Int} (h : HT.sIx xs.length 0 lo = 0 ∧ HT.sIx xs.length xs.length hi = xs.length) : cut xs lo hi = xs := by
  unfold cut
  rw [h.1, h.2]
  simp
def rSl (S : Link) (X : Cx) : V → Option Int → Option Int → Hp → VK → Prop := fun x lo hi H Q => ∃ φ M v, Rel S φ M H ∧ RX S X φ H v x ∧ TV S (RX S X) φ H (slice v lo hi M) Q fun _ _ _ => False
theorem sl_ok (G : Good S k X) : L2.SlR X (rSl S X) := by
  have eK := G.K
  intro pins s σ H x v vl vu lo hi sl Q I rx hs pl pu ⟨φ, M, a, R, ra, h⟩
  unfold slice at h
  split at h
  · split at h
    · rename_i hz
      rw [ra.str_] at rx
      exact L2.sl_str pins s σ H _ v vl vu lo hi sl Q I rx hs pl pu ⟨_, rfl, line_le hz, TV.ok R (.d rfl (.str _)) h⟩
    · exact h.elim
  · obtain ⟨p, xs, rfl, hx, q⟩ := ra.tup_
    refine L2.sl_tupA pins s σ H _ v vl vu lo hi sl Q I rx hs pl pu ⟨p, xs, rfl, by rw [eK]; exact hx, fun e => ?_, fun _ c hc => ?_⟩
    · refine TV.ok R (.d rfl (.tup hx ?_)) h
      rw [cut_whole (by rw [q.length]; exact e)]
      exact q
    · have K : Keep φ φ H (upd H c (.tup (L2.cutV xs lo hi))) := keep_new hc
      exact h φ _ (.ref c) (R.new hc) K (.d rfl (.tup (.inl (.inl upd_same)) ((q.cut lo hi).mono K)))
  · obtain ⟨p, xs, rfl, hx, q, _⟩ := ra.rl_
    refine L2.sl_list pins s σ H _ v vl vu lo hi sl Q I rx hs pl pu ⟨p, xs, rfl, by rw [eK]; exact hx, fun c hc => ?_⟩
    have K : Keep φ (φ ++ [c]) H (upd H c (.lst (L2.cutV xs lo hi))) := keep_add hc
    refine h _ _ (.ref c) (R.add hc (.lst upd_same ((q.cut lo hi).mono K))) K (.d rfl (.ref ?_))
    rw [← R.len, List.getElem?_append_right (Nat.le_refl _)]
    simp
  · split at h
    · rename_i vs hm
      obtain ⟨p, rfl, hn⟩ := ra.ref_
      obtain ⟨xs, hx, q⟩ := R.lst hn (lsOf_lst hm)
      refine L2.sl_list pins s σ H _ v vl vu lo hi sl Q I rx hs pl pu ⟨p, xs, rfl, .of hx, fun c hc => ?_⟩
      have K : Keep φ (φ ++ [c]) H (upd H c (.lst (L2.cutV xs lo hi))) := keep_add hc
      refine h _ _ (.ref c) (R.add hc (.lst upd_same ((q.cut lo hi).mono K))) K (.d rfl (.ref ?_))
      rw [← R.len, List.getElem?_append_right (Nat.le_refl _)]
      simp
    · exact h.elim
  · exact h.elim
end
end Mi
end
section
set_option Elab.async false
set_option linter.all false
set_option maxRecDepth 100000
/-! S5: expressions: each form by its parts. -/
namespace Mi
open PySem PySem.Spec PyProof.Rows
open L2 (V Hp HO SqL SqT RelV upd upd_same upd_ne ne_of ne_of_none Key Cx Inv PE PT PW PA PC TE TT TA VK Vis Takes WX XK Room OpR Dp DpAll)

/-- what the text's own constants, defs and classes are -/
structure Facts (S : Link) : Prop where
  con : ∀ x v, S.Pr.env.con x = some v → ∃ s u y, S.T.names[x]? = some s ∧ S.mg s = some u ∧ RelV y u ∧ ∀ φ H, RD S φ H v y
  fld : ∀ c s C f t, S.T.names[c]? = some s → S.mg s = some (.ref C) → S.Pr.env.isCls c = true → S.Pr.env.isFld f = true → S.T.names[f]? = some t → L2.NoAttr S.K C t
  xfld : ∀ c s C f t, S.T.names[c]? = some s → S.mg s = some (.ref C) → (S.Pr.env.excFs c).isSome = true → S.Pr.env.isFld f = true → S.T.names[f]? = some t → PySem.W.findIn S.K (.ref C) t = some none
  xf : ∀ c s C, S.T.names[c]? = some s → S.mg s = some (.ref C) → (S.Pr.env.excFs c).isSome = true → L2.XfC S.K C
  cls : ∀ c, S.Pr.env.isCls c = true → ∃ s C, S.T.names[c]? = some s ∧ S.mg s = some (.ref C)
  fnm : ∀ x, S.Pr.env.isFn x = true → ∃ s f, S.T.names[x]? = some s ∧ S.mg s = some (.ref f)
  kit : ∀ c s C, S.T.names[c]? = some s → S.mg s = some (.ref C) → S.Pr.env.isCls c = true → (∀ n ∈ (["NoneType", "bool", "int", "str", "list", "tuple"] : List String), PySem.W.kitOne S.K (.type n) (.ref C) = some false ∧ PySem.W.kitOne S.K (.ref C) (.type n) = some false) ∧
    L2.Cls S.K C ∧ PySem.W.findIn S.K (.ref C) "__class__" = some (some (.builtin "object.__class__")) ∧ PySem.W.specialIn S.K (.builtin "object.__class__") "__get__" = some (some (.builtin "getset_descriptor.__get__")) ∧ PySem.W.takesIn S.K (.builtin "object.__class__") = some true ∧ PySem.W.mroIn S.K C (.type "object") = some true ∧
    ∀ d t D, S.T.names[d]? = some t → S.mg t = some (.ref D) → S.Pr.env.isCls d = true → PySem.W.kitOne S.K (.ref C) (.ref D) = some (decide (c = d))

abbrev tEv (S : Link) (k : Nat) (X : Cx) (W : WX) (A : Ex) : TE := tE S X W (RX S X) (fun σ M => ev S.Pr.env (run S.Pr k) A σ M)
abbrev REq {α : Type} : List Addr → Hp → α → α → Prop := fun _ _ a b => a = b
abbrev tTv (S : Link) (k : Nat) (X : Cx) (W : WX) (A : Ex) : TT := tE S X W REq (fun σ M => evT S.Pr.env (run S.Pr k) A σ M)
abbrev tAv (S : Link) (k : Nat) (X : Cx) (W : WX) (As : List Ex) : TA := tE S X W (fun φ H vs xs => RSs S X.base X.pn φ H vs xs) (fun σ M => evs S.Pr.env (run S.Pr k) As σ M)

section
variable {S : Link} {k : Nat} {X : Cx} {W : WX} {L : Bool}
theorem varOk_of {N : List Str} {sc : Scope} {i : Nat} {x : Str} (h : varOk N sc i x = true) : N[i]? = some x ∧ Vis sc x ∧ (x == ("__debug__" : Str)) = false ∧ (x == ("__classdict__" : Str)) = false := by
  obtain ⟨h1, h2⟩ := Bool.and_eq_true_iff.mp (show (decide (N[i]? = some x) && (visK (sc.names.lookup x) && nmOk x)) = true from h)
  obtain ⟨h2, h3⟩ := Bool.and_eq_true_iff.mp h2
  obtain ⟨h3, h4⟩ := Bool.and_eq_true_iff.mp (show (!(x == ("__debug__" : Str)) && !(x == ("__classdict__" : Str))) = true from h3)
  refine ⟨of_decide_eq_true h1, ?_, by simpa using h3, by simpa using h4⟩
  unfold visK at h2
  split at h2
  · rename_i e; exact .inl e
  · rename_i e; exact .inr (.inl e)
  · rename_i e; exact .inr (.inr e)
  · cases h2
theorem stoOk_of {N : List Str} {sc : Scope} {i : Nat} {x : Str} (h : stoOk N sc i x = true) : N[i]? = some x ∧ L2.Loc sc x := by
  obtain ⟨h1, h2⟩ := Bool.and_eq_true_iff.mp (show (decide (N[i]? = some x) && locK (sc.names.lookup x)) = true from h)
  refine ⟨of_decide_eq_true h1, ?_⟩
  unfold locK at h2
  split at h2
  · rename_i e; exact .inl e
  · rename_i e; exact .inr e
  · cases h2
theorem gl_of {sc : Scope} {x : Str} (h : isGl (sc.names.lookup x) = true) : sc.names.lookup x = some .globalImplicit := by
  unfold isGl at h
  split at h
  · rename_i e; exact e
  · cases h
theorem gloOk_of {T : Tb} {sc : Scope} {j : Nat} {x : Str} (h : gloOk T sc j x = true) : T.names[j]? = some x ∧ sc.names.lookup x = some .globalImplicit ∧ (x == ("__debug__" : Str)) = false := by
  obtain ⟨h1, h2⟩ := Bool.and_eq_true_iff.mp (show (decide (T.names[j]? = some x) && (isGl (sc.names.lookup x) && !(x == ("__debug__" : Str)))) = true from h)
  obtain ⟨h2, h3⟩ := Bool.and_eq_true_iff.mp h2
  exact ⟨of_decide_eq_true h1, gl_of h2, by simpa using h3⟩
theorem bltOk_of {T : Tb} {sc : Scope} {x b : Str} (h : bltOk T sc x b = true) : x = b ∧ sc.names.lookup b = some .globalImplicit ∧ b ∈ T.free := by
  obtain ⟨h1, h2⟩ := Bool.and_eq_true_iff.mp (show (decide (x = b) && (isGl (sc.names.lookup x) && T.free.contains b)) = true from h)
  obtain ⟨h3, h4⟩ := Bool.and_eq_true_iff.mp h2
  have e := of_decide_eq_true h1
  clear h h1 h2
  subst e
  exact ⟨rfl, gl_of h3, by simpa using h4⟩

theorem e_var (G : Good S k X) {i : Nat} {x : Str} {pos : Pos} (h : varOk X.N X.env.scope i x = true) : PE X (.Name x pos) (tEv S k X W (.var i)) := by
  obtain ⟨h1, h2, h3, h4⟩ := varOk_of h
  refine PE_imp (L2.pe_var (i := i) h1 h2 h3 h4) fun σV H Q ⟨φ, σ, M, Re, sr, h⟩ => ?_
  have h : TV S (RX S X) φ H (match σ[i]? with | some (some v) => R.ok v M | _ => .err) Q _ := h
  split at h
  · rename_i v e
    obtain ⟨y, e2, r⟩ := sr.at_ i x v e h1 h2
    exact ⟨y, e2, h φ H y Re (Keep.refl _ _) r⟩
  · exact h.elim
theorem e_lit {c : Lit} {kc : Const} {j : Nat} {pos : Pos} (h : chkL c kc = true) : PE X (.Constant kc j pos) (tEv S k X W (.lit c)) := by
  cases c with
  | non =>
    cases kc <;> first | (cases h; done) | skip
    exact PE_imp L2.pe_non fun σV H Q ⟨φ, σ, M, Re, sr, h⟩ => TV.ok Re (.d rfl .non) h
  | bl b =>
    cases kc <;> first | (cases h; done) | skip
    rename_i b'
    have e : b = b' := by simpa [chkL] using h
    subst e
    exact PE_imp L2.pe_bl fun σV H Q ⟨φ, σ, M, Re, sr, h⟩ => TV.ok Re (.d rfl (.bl b)) h
  | int i =>
    cases kc <;> first | (cases h; done) | skip
    rename_i b'
    have e : i = b' := of_decide_eq_true h
    subst e
    exact PE_imp L2.pe_int fun σV H Q ⟨φ, σ, M, Re, sr, h⟩ => TV.ok Re (.d rfl (.int i)) h
  | str z =>
    cases kc <;> first | (cases h; done) | skip
    rename_i b'
    have e : z = b' := of_decide_eq_true h
    subst e
    exact PE_imp L2.pe_str fun σV H Q ⟨φ, σ, M, Re, sr, h⟩ => TV.ok Re (.d rfl (.str z)) h
theorem e_glo (G : Good S k X) (F : Facts S) {j : Nm} {x : Str} {pos : Pos} (h : gloOk S.T X.env.scope j x = true) : PE X (.Name x pos) (tEv S k X W (.glo j)) := by
  obtain ⟨h1, h2, h3⟩ := gloOk_of h
  have gl : L2.Gl X x := h2
  cases hc : S.Pr.env.con j with
  | some v =>
    obtain ⟨s, u, y, e1, e2, r, rd⟩ := F.con j v hc
    rw [h1] at e1; cases e1
    refine PE_imp (L2.pe_glob gl (by rw [G.mg]; exact e2) r h3) fun σV H Q ⟨φ, σ, M, Re, sr, h⟩ => ?_
    have h : TV S (RX S X) φ H (match S.Pr.env.con j with | some v => R.ok v M | none => match S.Pr.env.isFn j with | true => .ok (.glo j) M | false => .err) Q _ := h
    rw [hc] at h
    exact TV.ok Re (.d (rd φ H).isD (rd φ H)) h
  | none =>
    cases hf : S.Pr.env.isFn j with
    | true =>
      obtain ⟨s, f, e1, e2⟩ := F.fnm j hf
      rw [h1] at e1; cases e1
      refine PE_imp (L2.pe_glob (v := .ref f) gl (by rw [G.mg]; exact e2) rfl h3) fun σV H Q ⟨φ, σ, M, Re, sr, h⟩ => ?_
      have h : TV S (RX S X) φ H (match S.Pr.env.con j with | some v => R.ok v M | none => match S.Pr.env.isFn j with | true => .ok (.glo j) M | false => .err) Q _ := h
      rw [hc, hf] at h
      exact TV.ok Re (.d rfl (.glo h1 hf e2)) h
    | false =>
      refine ⟨fun _ _ σV H Q _ ⟨φ, σ, M, Re, sr, h⟩ => ?_⟩
      have h : TV S (RX S X) φ H (match S.Pr.env.con j with | some v => R.ok v M | none => match S.Pr.env.isFn j with | true => .ok (.glo j) M | false => .err) Q _ := h
      rw [hc, hf] at h
      exact h.elim
end
end Mi
end
section
set_option Elab.async false
set_option linter.all false
set_option maxRecDepth 100000
/-! S6: expressions: the simple forms, as values and as tests. -/
namespace Mi
open PySem PySem.Spec PyProof.Rows
open L2 (V Hp HO SqL SqT RelV upd upd_same upd_ne ne_of ne_of_none Key Cx Inv PE PT PW PA PC TE TT TA VK Vis Takes WX XK Room OpR Dp DpAll thn)

/-- no exception -/
def NoExc {α : Type} (r : R α) : Prop := ∀ e M, r ≠ .exc e M
theorem TV.noexc {α β : Type} {S : Link} {RV : List Addr → Hp → α → β → Prop} {φ : List Addr} {H : Hp} {r : R α} {Q : β → Hp → Prop} {W W' : WQ} (n : NoExc r) (h : TV S RV φ H r Q W) : TV S RV φ H r Q W' := by
  cases r with
  | ok v M => exact h
  | exc e M => exact (n e M rfl).elim
  | err => exact h
theorem binop_ne {op : BOp} {x y : Val} {M : Mem} : NoExc (binop op x y M) := by
  intro e M'
  unfold binop
  repeat' split
  all_goals (intro z; cases z)
theorem slice_ne {x : Val} {lo hi : Option Int} {M : Mem} : NoExc (slice x lo hi M) := by
  intro e M'
  unfold slice
  repeat' split
  all_goals (intro z; cases z)
theorem okO_ne {α : Type} {o : Option α} {M : Mem} : NoExc (okO M o) := by
  intro e M' z
  cases o <;> cases z
theorem TV.bind_assoc {α β γ : Type} {r : R α} {f : α → Mem → R β} {g : β → Mem → R γ} : (r.bind f).bind g = r.bind fun x M => (f x M).bind g := by
  cases r <;> rfl

section
variable {S : Link} {k : Nat} {X : Cx} {W : WX} {L : Bool}
/-- what holds behind the first of two -/
theorem tE_two {γ δ : Type} {RW : List Addr → Hp → γ → δ → Prop} {a b : Ex} {g : Val → Val → Mem → R γ} {σV : L2.St} {H : Hp} {Q : δ → Hp → Prop}
    (h : tE S X W RW (fun σ M => (ev S.Pr.env (run S.Pr k) a σ M).bind fun x M => (ev S.Pr.env (run S.Pr k) b σ M).bind fun y M => g x y M) σV H Q) :
    tEv S k X W a σV H fun x H1 => tEv S k X W b σV H1 fun y H2 => ∃ φ M v w, Rel S φ M H2 ∧ RX S X φ H2 v x ∧ RX S X φ H2 w y ∧ TV S RW φ H2 (g v w M) Q fun c d H' => W c d σV H' := by
  refine tE_mono (tE_bind (RV := RX S X) h) fun x H1 ⟨φ1, σ, v, M1, R1, s1, r1, h1⟩ => ?_
  refine ⟨φ1, σ, M1, R1, s1, ?_⟩
  exact (TV.bind (RV := RX S X) h1).mono fun y H2 ⟨φ2, w, M2, R2, K2, r2, h2⟩ => ⟨φ2, M2, v, w, R2, RS.mono K2 r1, r2, h2⟩
theorem tE_one {γ δ : Type} {RW : List Addr → Hp → γ → δ → Prop} {a : Ex} {g : Val → Mem → R γ} {σV : L2.St} {H : Hp} {Q : δ → Hp → Prop}
    (h : tE S X W RW (fun σ M => (ev S.Pr.env (run S.Pr k) a σ M).bind g) σV H Q) :
    tEv S k X W a σV H fun x H1 => ∃ φ M v, Rel S φ M H1 ∧ RX S X φ H1 v x ∧ TV S RW φ H1 (g v M) Q fun c d H' => W c d σV H' :=
  tE_mono (tE_bind (RV := RX S X) h) fun x H1 ⟨φ1, σ, v, M1, R1, s1, r1, h1⟩ => ⟨φ1, M1, v, R1, r1, h1⟩
theorem tE_cong {α β : Type} {RV : List Addr → Hp → α → β → Prop} {f g : Sl → Mem → R α} {σV : L2.St} {H : Hp} {Q : β → Hp → Prop} (h : tE S X W RV f σV H Q) (e : ∀ σ M, f σ M = g σ M) : tE S X W RV g σV H Q := by
  obtain ⟨φ, σ, M, R, sr, h⟩ := h
  exact ⟨φ, σ, M, R, sr, by rw [← e]; exact h⟩

theorem e_bin (G : Good S k X) {op : BOp} {o : Operator} (hc : chkB op o = true) {A B : Ex} {a b : Expr} {pos : Pos} (ha : PE X a (tEv S k X W A)) (hb : PE X b (tEv S k X W B)) : PE X (.BinOp a o b pos) (tEv S k X W (.bin op A B)) := by
  refine PE_imp (L2.pe_op (op_bin G hc) ha hb) fun σV H Q h => ?_
  refine tE_mono (tE_two (g := binop op) h) fun x H1 h1 => tE_mono h1 fun y H2 ⟨φ, M, v, w, R, r1, r2, h2⟩ => ⟨φ, M, v, w, R, r1, r2, TV.noexc binop_ne h2⟩
theorem e_neg (G : Good S k X) {A : Ex} {a : Expr} {pos : Pos} (ha : PE X a (tEv S k X W A)) : PE X (.UnaryOp .USub a pos) (tEv S k X W (.neg A)) := by
  refine PE_imp (L2.pe_un L2.un_neg ha) fun σV H Q h => ?_
  refine tE_mono (tE_one h) fun x H1 ⟨φ, M, v, R, r, h1⟩ => ?_
  cases v with
  | int i => rw [r.int_]; exact ⟨i, rfl, TV.ok R (.d rfl (.int _)) h1⟩
  | _ => exact h1.elim
theorem e_not (G : Good S k X) {A : Ex} {a : Expr} {pos : Pos} (ha : PE X a (tEv S k X W A)) : PE X (.UnaryOp .Not a pos) (tEv S k X W (.not A)) := by
  refine PE_imp (L2.pe_notT ha) fun σV H Q h => ?_
  refine tE_mono (tE_one h) fun x H1 ⟨φ, M, v, R, r, h1⟩ => ?_
  cases e : truthy M v with
  | some b =>
    rw [e] at h1
    exact ⟨b, by rw [G.K]; exact truthy_V R r e, TV.ok R (.d rfl (.bl _)) h1⟩
  | none => rw [e] at h1; exact h1.elim
theorem e_ix (G : Good S k X) {A B : Ex} {a b : Expr} {pos : Pos} (ha : PE X a (tEv S k X W A)) (hb : PE X b (tEv S k X W B)) (hp : L2.PlainIx b) : PE X (.Subscript a b pos) (tEv S k X W (.ix A B)) := by
  refine PE_imp (L2.pe_ix (ix_ok G) ha hb hp) fun σV H Q h => ?_
  refine tE_mono (tE_two (g := fun x y M => okO M (item M x y)) h) fun x H1 h1 => tE_mono h1 fun y H2 ⟨φ, M, v, w, R, r1, r2, h2⟩ => ?_
  cases e : item M v w with
  | none => rw [e] at h2; exact h2.elim
  | some z => rw [e] at h2; exact ⟨φ, M, v, w, z, R, r1, r2, e, fun zx rz => TV.ok R rz h2⟩
/-- a test by the value -/
theorem t_plain (G : Good S k X) {A : Ex} {a : Expr} (ha : PE X a (tEv S k X W A)) (he : ∀ whole, isTrue a X.env whole = (do let v ← whole; standAt a.pos; holding [v] (PySem.truthy v))) : PT X a (tTv S k X W A) := by
  refine PT_imp (L2.pt_truth ha he) fun σV H Q h => ?_
  refine tE_mono (tE_one h) fun x H1 ⟨φ, M, v, R, r, h1⟩ => ?_
  cases e : truthy M v with
  | some b =>
    rw [e] at h1
    exact ⟨b, by rw [G.K]; exact truthy_V R r e, TV.ok R rfl h1⟩
  | none => rw [e] at h1; exact h1.elim
theorem evT_not {P : Env} {o : Oracle} {A : Ex} {σ : Sl} {M : Mem} : evT P o (.not A) σ M = (evT P o A σ M).bind fun b M => .ok (!b) M := by
  unfold evT
  rw [ev]
  cases ev P o A σ M with
  | ok v M' => 
    show R.bind (match truthy M' v with | some b => R.ok (Val.bl (!b)) M' | none => R.err) _ = (okO M' (truthy M' v)).bind _
    cases truthy M' v <;> rfl
  | exc e M' => rfl
  | err => rfl
theorem t_not (G : Good S k X) {A : Ex} {a : Expr} {pos : Pos} (ha : PT X a (tTv S k X W A)) : PT X (.UnaryOp .Not a pos) (tTv S k X W (.not A)) := by
  refine PT_imp (L2.pt_not ha) fun σV H Q h => ?_
  refine tE_mono (tE_bind (RV := REq) (tE_cong h fun σ M => evT_not)) fun x H1 ⟨φ, σ, v, M, R, sr, r, h1⟩ => ?_
  have e : v = x := r
  subst e
  exact TV.ok R rfl h1
theorem e_ite (G : Good S k X) {C A B : Ex} {c a b : Expr} {pos : Pos} (hc : PT X c (tTv S k X W C)) (ha : PE X a (tEv S k X W A)) (hb : PE X b (tEv S k X W B)) : PE X (.IfExp c a b pos) (tEv S k X W (.ite C A B)) := by
  refine PE_imp (L2.pe_ifExp hc ha hb) fun σV H Q h => ?_
  refine tE_mono (tE_bind (RV := REq) (g := fun σ b M => match b with | true => ev S.Pr.env (run S.Pr k) A σ M | false => ev S.Pr.env (run S.Pr k) B σ M) (tE_cong h fun σ M => ?_)) fun x H1 ⟨φ, σ, v, M, R, sr, r, h1⟩ => ?_
  · rw [ev]; unfold evT
    cases ev S.Pr.env (run S.Pr k) C σ M with
    | ok v M' =>
      show (match truthy M' v with | some true => _ | some false => _ | none => _) = (okO M' (truthy M' v)).bind _
      cases truthy M' v with
      | none => rfl
      | some b => cases b <;> rfl
    | exc e M' => rfl
    | err => rfl
  · have e : v = x := r
    subst e
    cases v with
    | true => exact ⟨φ, σ, M, R, sr, h1⟩
    | false => exact ⟨φ, σ, M, R, sr, h1⟩
theorem pt_ite {c a b : Expr} {tc ta tb : TT} {pos : Pos} (hc : PT X c tc) (ha : PT X a ta) (hb : PT X b tb) : PT X (.IfExp c a b pos) (fun σ H Q => tc σ H fun d H1 => if d = true then ta σ H1 Q else tb σ H1 Q) := by
  refine ⟨fun pins s σ H Q I h => ?_⟩
  refine isTrue_IfExp (thn (hc.run pins s σ H _ I h) fun d s1 ⟨H1, I1, q1⟩ => ?_)
  cases d with
  | true => exact ha.run pins s1 σ H1 Q I1 q1
  | false => exact hb.run pins s1 σ H1 Q I1 q1
theorem t_ite (G : Good S k X) {C A B : Ex} {c a b : Expr} {pos : Pos} (hc : PT X c (tTv S k X W C)) (ha : PT X a (tTv S k X W A)) (hb : PT X b (tTv S k X W B)) : PT X (.IfExp c a b pos) (tTv S k X W (.ite C A B)) := by
  refine PT_imp (pt_ite hc ha hb) fun σV H Q h => ?_
  refine tE_mono (tE_bind (RV := REq) (g := fun σ b M => match b with | true => evT S.Pr.env (run S.Pr k) A σ M | false => evT S.Pr.env (run S.Pr k) B σ M) (tE_cong h fun σ M => ?_)) fun x H1 ⟨φ, σ, v, M, R, sr, r, h1⟩ => ?_
  · unfold evT; rw [ev]
    cases ev S.Pr.env (run S.Pr k) C σ M with
    | ok v M' =>
      show R.bind (match truthy M' v with | some true => _ | some false => _ | none => _) _ = (okO M' (truthy M' v)).bind _
      cases truthy M' v with
      | none => rfl
      | some b => cases b <;> rfl
    | exc e M' => rfl
    | err => rfl
  · have e : v = x := r
    subst e
    cases v with
    | true => exact ⟨φ, σ, M, R, sr, h1⟩
    | false => exact ⟨φ, σ, M, R, sr, h1⟩

/-! ### and, or -/
theorem evAnd_one {P : Env} {o : Oracle} {A : Ex} {σ : Sl} {M : Mem} : evAnd P o [A] σ M = ev P o A σ M := by
  rw [evAnd]
  cases ev P o A σ M <;> rfl
theorem evOr_one {P : Env} {o : Oracle} {A : Ex} {σ : Sl} {M : Mem} : evOr P o [A] σ M = ev P o A σ M := by
  rw [evOr]
  cases ev P o A σ M <;> rfl
inductive PEs (S : Link) (k : Nat) (X : Cx) (W : WX) : List Ex → List Expr → Prop
  | nil : PEs S k X W [] []
  | cons {A : Ex} {As : List Ex} {a : Expr} {as : List Expr} : PE X a (tEv S k X W A) → PT X a (tTv S k X W A) → starEach (a :: as) X.env = (false, eval a X.env) :: starEach as X.env → PEs S k X W As as → PEs S k X W (A :: As) (a :: as)
theorem e_and (G : Good S k X) {pos : Pos} : ∀ {As : List Ex} {as : List Expr}, PEs S k X W As as → PE X (.BoolOp .And as pos) (tEv S k X W (.and As))
  | _, _, .nil => ⟨fun _ _ σV H Q _ ⟨φ, σ, M, Re, sr, h⟩ => False.elim (by
      have h : TV S (RX S X) φ H (ev S.Pr.env (run S.Pr k) (.and []) σ M) Q _ := h
      rw [ev, evAnd] at h
      exact h)⟩
  | _, _, .cons (A := A) ha _ _ .nil => PE_imp (L2.pe_one ha) fun σV H Q h => tE_cong h fun σ M => by rw [ev, evAnd_one]
  | _, _, .cons (A := A) (As := B :: Bs) ha _ _ (.cons hb tb sb hr) => by
    refine PE_imp (L2.pe_andT ha (e_and G (.cons hb tb sb hr))) fun σV H Q h => ?_
    refine tE_mono (tE_bind (RV := RX S X) (g := fun σ v M => match truthy M v with | some true => evAnd S.Pr.env (run S.Pr k) (B :: Bs) σ M | some false => R.ok v M | none => .err) (tE_cong h fun σ M => by rw [ev, evAnd]; rfl)) fun x H1 ⟨φ, σ, v, M, Re, sr, r, h1⟩ => ?_
    cases e : truthy M v with
    | none => rw [e] at h1; exact h1.elim
    | some b =>
      rw [e] at h1
      refine ⟨b, by rw [G.K]; exact truthy_V Re r e, ?_⟩
      cases b with
      | true => exact ⟨φ, σ, M, Re, sr, by
          show TV S _ φ _ (ev S.Pr.env (run S.Pr k) (.and (B :: Bs)) σ M) Q _
          rw [ev]; exact h1⟩
      | false => exact TV.ok Re r h1
theorem e_or (G : Good S k X) {pos : Pos} : ∀ {As : List Ex} {as : List Expr}, PEs S k X W As as → PE X (.BoolOp .Or as pos) (tEv S k X W (.or As))
  | _, _, .nil => ⟨fun _ _ σV H Q _ ⟨φ, σ, M, Re, sr, h⟩ => False.elim (by
      have h : TV S (RX S X) φ H (ev S.Pr.env (run S.Pr k) (.or []) σ M) Q _ := h
      rw [ev, evOr] at h
      exact h)⟩
  | _, _, .cons (A := A) ha _ _ .nil => PE_imp (L2.pe_one ha) fun σV H Q h => tE_cong h fun σ M => by rw [ev, evOr_one]
  | _, _, .cons (A := A) (As := B :: Bs) ha _ _ (.cons hb tb sb hr) => by
    refine PE_imp (L2.pe_orT ha (e_or G (.cons hb tb sb hr))) fun σV H Q h => ?_
    refine tE_mono (tE_bind (RV := RX S X) (g := fun σ v M => match truthy M v with | some true => R.ok v M | some false => evOr S.Pr.env (run S.Pr k) (B :: Bs) σ M | none => .err) (tE_cong h fun σ M => by rw [ev, evOr]; rfl)) fun x H1 ⟨φ, σ, v, M, Re, sr, r, h1⟩ => ?_
    cases e : truthy M v with
    | none => rw [e] at h1; exact h1.elim
    | some b =>
      rw [e] at h1
      refine ⟨b, by rw [G.K]; exact truthy_V Re r e, ?_⟩
      cases b with
      | false => exact ⟨φ, σ, M, Re, sr, by
          show TV S _ φ _ (ev S.Pr.env (run S.Pr k) (.or (B :: Bs)) σ M) Q _
          rw [ev]; exact h1⟩
      | true => exact TV.ok Re r h1
theorem evT_and {P : Env} {o : Oracle} {A B : Ex} {Bs : List Ex} {σ : Sl} {M : Mem} : evT P o (.and (A :: B :: Bs)) σ M = (evT P o A σ M).bind fun b M => match b with | true => evT P o (.and (B :: Bs)) σ M | false => .ok false M := by
  unfold evT
  rw [ev, evAnd]
  cases ev P o A σ M with
  | ok v M' =>
    show R.bind (match truthy M' v with | some true => evAnd P o (B :: Bs) σ M' | some false => R.ok v M' | none => R.err) _ = (okO M' (truthy M' v)).bind _
    cases e : truthy M' v with
    | none => rfl
    | some b =>
      cases b with
      | true => show _ = R.bind (ev P o (.and (B :: Bs)) σ M') _; rw [ev]
      | false => show okO M' (truthy M' v) = _; rw [e]; rfl
  | exc e M' => rfl
  | err => rfl
theorem evT_or {P : Env} {o : Oracle} {A B : Ex} {Bs : List Ex} {σ : Sl} {M : Mem} : evT P o (.or (A :: B :: Bs)) σ M = (evT P o A σ M).bind fun b M => match b with | true => .ok true M | false => evT P o (.or (B :: Bs)) σ M := by
  unfold evT
  rw [ev, evOr]
  cases ev P o A σ M with
  | ok v M' =>
    show R.bind (match truthy M' v with | some true => R.ok v M' | some false => evOr P o (B :: Bs) σ M' | none => R.err) _ = (okO M' (truthy M' v)).bind _
    cases e : truthy M' v with
    | none => rfl
    | some b =>
      cases b with
      | false => show _ = R.bind (ev P o (.or (B :: Bs)) σ M') _; rw [ev]
      | true => show okO M' (truthy M' v) = _; rw [e]; rfl
  | exc e M' => rfl
  | err => rfl
theorem PW_imp {e : Expr} {t u : TT} (h : PW X e t) (i : ∀ σ H Q, u σ H Q → t σ H Q) : PW X e u := ⟨fun wh pins s σ H Q I hu => h.run wh pins s σ H Q I (i σ H Q hu)⟩
theorem w_and (G : Good S k X) {pos : Pos} : ∀ {As : List Ex} {as : List Expr}, PEs S k X W As as → PW X (.BoolOp .And as pos) (tTv S k X W (.and As))
  | _, _, .nil => ⟨fun _ _ _ σV H Q _ ⟨φ, σ, M, Re, sr, h⟩ => False.elim (by
      have h : TV S REq φ H (evT S.Pr.env (run S.Pr k) (.and []) σ M) Q _ := h
      unfold evT at h
      rw [ev, evAnd] at h
      exact h)⟩
  | _, _, .cons (A := A) _ ha _ .nil => PW_imp (L2.pw_and1 ha) fun σV H Q h => tE_cong h fun σ M => by unfold evT; rw [ev, evAnd_one]
  | _, _, .cons (A := A) (As := B :: Bs) _ ha _ (.cons hb tb sb hr) => by
    refine PW_imp (L2.pw_and ha (w_and G (.cons hb tb sb hr))) fun σV H Q h => ?_
    refine tE_mono (tE_bind (RV := REq) (tE_cong h fun σ M => evT_and)) fun x H1 ⟨φ, σ, v, M, Re, sr, r, h1⟩ => ?_
    have e : v = x := r
    subst e
    cases v with
    | true => exact ⟨φ, σ, M, Re, sr, h1⟩
    | false => exact TV.ok Re rfl h1
theorem w_or (G : Good S k X) {pos : Pos} : ∀ {As : List Ex} {as : List Expr}, PEs S k X W As as → PW X (.BoolOp .Or as pos) (tTv S k X W (.or As))
  | _, _, .nil => ⟨fun _ _ _ σV H Q _ ⟨φ, σ, M, Re, sr, h⟩ => False.elim (by
      have h : TV S REq φ H (evT S.Pr.env (run S.Pr k) (.or []) σ M) Q _ := h
      unfold evT at h
      rw [ev, evOr] at h
      exact h)⟩
  | _, _, .cons (A := A) _ ha _ .nil => PW_imp (L2.pw_or1 ha) fun σV H Q h => tE_cong h fun σ M => by unfold evT; rw [ev, evOr_one]
  | _, _, .cons (A := A) (As := B :: Bs) _ ha _ (.cons hb tb sb hr) => by
    refine PW_imp (L2.pw_or ha (w_or G (.cons hb tb sb hr))) fun σV H Q h => ?_
    refine tE_mono (tE_bind (RV := REq) (tE_cong h fun σ M => evT_or)) fun x H1 ⟨φ, σ, v, M, Re, sr, r, h1⟩ => ?_
    have e : v = x := r
    subst e
    cases v with
    | false => exact ⟨φ, σ, M, Re, sr, h1⟩
    | true => exact TV.ok Re rfl h1

/-! ### displays -/
theorem pa_ex (G : Good S k X) : ∀ {As : List Ex} {as : List Expr}, PEs S k X W As as → PA X as (tAv S k X W As)
  | _, _, .nil => PA_imp L2.pa_nil fun σV H Q ⟨φ, σ, M, Re, sr, h⟩ => by
    have h : TV S (fun φ H vs xs => RSs S X.base X.pn φ H vs xs) φ H (evs S.Pr.env (run S.Pr k) [] σ M) Q _ := h
    rw [evs] at h
    exact TV.ok Re .nil h
  | _, _, .cons (A := A) (As := As) ha _ hs hr => by
    refine PA_imp (L2.pa_cons ha (pa_ex G hr) hs) fun σV H Q h => ?_
    refine tE_mono (tE_bind (RV := RX S X) (g := fun σ v M => (evs S.Pr.env (run S.Pr k) As σ M).bind fun vs M => .ok (v :: vs) M) (tE_cong h fun σ M => by rw [evs])) fun x H1 ⟨φ, σ, v, M, Re, sr, r, h1⟩ => ?_
    refine ⟨φ, σ, M, Re, sr, ?_⟩
    exact (TV.bind (RV := fun φ H vs xs => RSs S X.base X.pn φ H vs xs) h1).mono fun xs H2 ⟨φ2, vs, M2, R2, K2, r2, h2⟩ => TV.ok R2 (.cons (RS.mono K2 r) r2) h2
theorem tA_one {γ δ : Type} {RW : List Addr → Hp → γ → δ → Prop} {As : List Ex} {g : List Val → Mem → R γ} {σV : L2.St} {H : Hp} {Q : δ → Hp → Prop}
    (h : tE S X W RW (fun σ M => (evs S.Pr.env (run S.Pr k) As σ M).bind g) σV H Q) :
    tAv S k X W As σV H fun xs H1 => ∃ φ M vs, Rel S φ M H1 ∧ RSs S X.base X.pn φ H1 vs xs ∧ TV S RW φ H1 (g vs M) Q fun c d H' => W c d σV H' :=
  tE_mono (tE_bind (RV := fun φ H vs xs => RSs S X.base X.pn φ H vs xs) h) fun x H1 ⟨φ1, σ, v, M1, R1, s1, r1, h1⟩ => ⟨φ1, M1, v, R1, r1, h1⟩
theorem evs_len {P : Env} {o : Oracle} : ∀ {As : List Ex} {σ : Sl} {M M' : Mem} {vs : List Val}, evs P o As σ M = .ok vs M' → vs.length = As.length
  | [], σ, M, M', vs, h => by rw [evs] at h; cases h; rfl
  | A :: As, σ, M, M', vs, h => by
    rw [evs] at h
    cases e : ev P o A σ M with
    | ok v M1 =>
      rw [e] at h
      cases e2 : evs P o As σ M1 with
      | ok ws M2 =>
        have h : (evs P o As σ M1).bind (fun ws M => R.ok (v :: ws) M) = .ok vs M' := h
        rw [e2] at h
        cases h
        exact congrArg (· + 1) (evs_len e2)
      | exc _ _ => 
        have h : (evs P o As σ M1).bind (fun ws M => R.ok (v :: ws) M) = .ok vs M' := h
        rw [e2] at h; cases h
      | err =>
        have h : (evs P o As σ M1).bind (fun ws M => R.ok (v :: ws) M) = .ok vs M' := h
        rw [e2] at h; cases h
    | exc _ _ => rw [e] at h; cases h
    | err => rw [e] at h; cases h
theorem nodata_ok {α β : Type} {RV : List Addr → Hp → α → β → Prop} {φ : List Addr} {H : Hp} {vs : List Val} {r : R α} {Q : β → Hp → Prop} {W : WQ} (h : TV S RV φ H (nodata vs r) Q W) : allD vs = true ∧ TV S RV φ H r Q W := by
  unfold nodata at h
  split at h
  · rename_i e; exact ⟨e, h⟩
  · exact h.elim
theorem RSs.len {base : Heap} {pn : List (Addr × PySem.Obj)} {φ : List Addr} {H : Hp} {v : List Val} {x : List V} (r : RSs S base pn φ H v x) : x.length = v.length := r.length.symm
/-- as tE_one, with the length of what is made -/
theorem tA_len {γ δ : Type} {RW : List Addr → Hp → γ → δ → Prop} {As : List Ex} {g : List Val → Mem → R γ} {σV : L2.St} {H : Hp} {Q : δ → Hp → Prop}
    (h : tE S X W RW (fun σ M => (evs S.Pr.env (run S.Pr k) As σ M).bind g) σV H Q) :
    tAv S k X W As σV H fun xs H1 => xs.length = As.length ∧ ∃ φ M vs, Rel S φ M H1 ∧ RSs S X.base X.pn φ H1 vs xs ∧ TV S RW φ H1 (g vs M) Q fun c d H' => W c d σV H' := by
  obtain ⟨φ, σ, M, Re, sr, h⟩ := h
  have h : TV S RW φ H ((evs S.Pr.env (run S.Pr k) As σ M).bind g) Q fun c d H' => W c d σV H' := h
  refine ⟨φ, σ, M, Re, sr, ?_⟩
  show TV S _ φ H (evs S.Pr.env (run S.Pr k) As σ M) _ _
  cases e : evs S.Pr.env (run S.Pr k) As σ M with
  | ok vs M' =>
    rw [e] at h
    exact fun φ' H' xs R' K' r => ⟨r.len.trans (evs_len e), φ', M', vs, R', r, TV.keep K' h⟩
  | exc x M' => rw [e] at h; exact h
  | err => rw [e] at h; exact h
theorem line_1000 {n : Nat} (h : n ≤ 1000) : n ≤ sizeLine := by rw [sizeLine_eq]; omega
theorem e_tup (G : Good S k X) {As : List Ex} {as : List Expr} {x1 : Nat} {pos : Pos} (hl : as.length ≤ 1000) (hn : As.length = as.length) (h : PEs S k X W As as) : PE X (.Tuple as x1 pos) (tEv S k X W (.tup As)) := by
  refine PE_imp (L2.pe_tup (pa_ex G h)) fun σV H Q h => ?_
  refine tE_mono (tA_len (g := fun vs M => nodata vs (R.ok (Val.tup vs) M)) h) fun xs H1 ⟨hz, φ, M, vs, Re, r, h1⟩ => ⟨line_1000 (by omega), fun p hp => ?_⟩
  obtain ⟨hd, h1⟩ := nodata_ok h1
  have K : Keep φ φ H1 (upd H1 p (.tup xs)) := keep_new hp
  exact h1 φ _ (.ref p) (Re.new hp) K (.d rfl (.tup (.inl (.inl upd_same)) ((r.data hd).mono K)))
theorem e_lst (G : Good S k X) {As : List Ex} {as : List Expr} {pos : Pos} (hl : as.length ≤ 1000) (hn : As.length = as.length) (h : PEs S k X W As as) : PE X (.List as pos) (tEv S k X W (.lst As)) := by
  refine PE_imp (L2.pe_lst (pa_ex G h)) fun σV H Q h => ?_
  refine tE_mono (tA_len (g := fun vs M => nodata vs (R.ok (Val.ref M.length) (M ++ [Ob.lst vs]))) h) fun xs H1 ⟨hz, φ, M, vs, Re, r, h1⟩ => ⟨line_1000 (by omega), fun p hp => ?_⟩
  obtain ⟨hd, h1⟩ := nodata_ok h1
  have K : Keep φ (φ ++ [p]) H1 (upd H1 p (.lst xs)) := keep_add hp
  refine h1 _ _ (.ref p) (Re.add hp (.lst upd_same ((r.data hd).mono K))) K (.d rfl (.ref ?_))
  rw [← Re.len, List.getElem?_append_right (Nat.le_refl _)]
  simp
end
end Mi
end
section
set_option Elab.async false
set_option linter.all false
set_option maxRecDepth 100000
/-! S7: comparisons, slices, fields, isinstance, built-ins. -/
namespace Mi
open PySem PySem.Spec PyProof.Rows
open L2 (V Hp HO SqL SqT RelV upd upd_same upd_ne ne_of ne_of_none Key Cx Inv PE PT PW PA PC TE TT TA VK Vis Takes WX XK Room OpR Dp DpAll thn TyX TyOf ClsV Vals EP TP)

section
variable {S : Link} {k : Nat} {X : Cx} {W : WX} {L : Bool}
/-! ### comparisons -/
inductive PCr (S : Link) (k : Nat) (X : Cx) (W : WX) : List Cr → List CmpOp → List Expr → Prop
  | nil : PCr S k X W [] [] []
  | cons {op : COp} {o : CmpOp} {B : Ex} {b : Expr} {r : List Cr} {os : List CmpOp} {es : List Expr} : chkC op o = true → PE X b (tEv S k X W B) → (∀ q, behindInMarks q b = false) → PCr S k X W r os es → PCr S k X W (.mk op B :: r) (o :: os) (b :: es)
theorem PCr.marks {r : List Cr} {os : List CmpOp} {es : List Expr} (h : PCr S k X W r os es) : lastMarks os es = false := by
  induction h with
  | nil => rfl
  | cons _ _ h t ih =>
    cases t with
    | nil => exact h _
    | cons _ _ _ _ => exact ih
/-- the rest of a chain of comparisons -/
theorem chain_ok (G : Good S k X) {pos : Pos} : ∀ {r : List Cr} {os : List CmpOp} {es : List Expr}, PCr S k X W r os es → ∀ (pins : List (Addr × PySem.Obj)) (s : Shared) (σV : L2.St) (H : Hp) (Q : VK) (x : V) (v : PySem.Value) (w : Val) (φ : List Addr) (σ : Sl) (M : Mem),
    Inv X pins σV H s → RelV x v → Rel S φ M H → SR S X φ H σ σV → RX S X φ H w x → TV S (RX S X) φ H (evCmp S.Pr.env (run S.Pr k) r w σ M) Q (fun c d H' => W c d σV H') →
    wpAny (model X.prog X.w) X.A (compareChain pos v os (evalEach es X.env)) (EP X pins σV Q) X.xe s
  | _, _, _, .nil, pins, s, σV, H, Q, x, v, w, φ, σ, M, I, rx, Re, sr, rw', h => by
    rw [evCmp] at h
    exact h.elim
  | _, _, _, .cons (op := op) (o := o) (B := B) (b := b) hc hb _ .nil, pins, s, σV, H, Q, x, v, w, φ, σ, M, I, rx, Re, sr, rw', h => by
    rw [evCmp] at h
    have h1 : tEv S k X W B σV H fun y H1 => ∃ φ1 u M1, Rel S φ1 M1 H1 ∧ Keep φ φ1 H H1 ∧ RX S X φ1 H1 u y ∧ TV S (RX S X) φ1 H1 (match cmpop op w u M1 with | none => .err | some k => R.ok (.bl k) M1) Q fun c d H' => W c d σV H' := by
      refine ⟨φ, σ, M, Re, sr, ?_⟩
      exact (TV.bind (RV := RX S X) h).mono fun y H1 ⟨φ1, u, M1, R1, K1, r1, h1⟩ => ⟨φ1, u, M1, R1, K1, r1, h1⟩
    refine chain_last (thn (hb.run pins s σV H _ I h1) fun u s2 ⟨y, H2, I2, r2, φ1, w2, M1, R1, K1, rw2, h2⟩ => ?_)
    cases e : cmpop op w w2 M1 with
    | none => rw [e] at h2; exact h2.elim
    | some kk =>
      rw [e] at h2
      exact op_cmp G hc pins s2 σV H2 x y v u Q I2 rx r2 ⟨φ1, M1, w, w2, kk, R1, RS.mono K1 rw', rw2, e, TV.ok R1 (.d rfl (.bl _)) h2⟩
  | _, _, _, .cons (op := op) (o := o) (B := B) (b := b) hc hb hm (.cons (op := op') (o := o') (B := B') (b := b') (r := r') (os := os') (es := es') hc' hb' hm' hr), pins, s, σV, H, Q, x, v, w, φ, σ, M, I, rx, Re, sr, rw', h => by
    rw [evCmp] at h
    have h1 : tEv S k X W B σV H fun y H1 => ∃ φ1 u M1, Rel S φ1 M1 H1 ∧ Keep φ φ1 H H1 ∧ SR S X φ1 H1 σ σV ∧ RX S X φ1 H1 u y ∧ TV S (RX S X) φ1 H1 (match cmpop op w u M1 with | none => .err | some kb => match kb with | true => evCmp S.Pr.env (run S.Pr k) (.mk op' B' :: r') u σ M1 | false => R.ok (.bl false) M1) Q fun c d H' => W c d σV H' := by
      refine ⟨φ, σ, M, Re, sr, ?_⟩
      exact (TV.bind (RV := RX S X) h).mono fun y H1 ⟨φ1, u, M1, R1, K1, r1, h1⟩ => ⟨φ1, u, M1, R1, K1, sr.mono K1, r1, h1⟩
    refine chain_link (thn (hb.run pins s σV H _ I h1) fun u s2 ⟨y, H2, I2, r2, φ1, w2, M1, R1, K1, sr1, rw2, h2⟩ => ?_)
    cases e : cmpop op w w2 M1 with
    | none => rw [e] at h2; exact h2.elim
    | some kk =>
      rw [e] at h2
      refine thn (op_cmp G hc pins s2 σV H2 x y v u (fun z H3 => z = .bl kk ∧ H3 = H2) I2 rx r2 ⟨φ1, M1, w, w2, kk, R1, RS.mono K1 rw', rw2, e, rfl, rfl⟩) fun c s3 ⟨z, H3, I3, r3, ez, eh⟩ => ?_
      subst ez
      subst eh
      cases (show c = PySem.Value.bool kk from r3)
      refine wpAny_truthy_bool ?_
      cases kk with
      | false => exact ite_ff ⟨.bl false, _, I3, rfl, TV.ok R1 (.d rfl (.bl _)) h2⟩
      | true => exact ite_tt (chain_ok G (.cons hc' hb' hm' hr) pins s3 σV _ Q y u w2 φ1 σ M1 I3 r2 R1 sr1 rw2 h2)
theorem test_ok (G : Good S k X) {pos : Pos} : ∀ {r : List Cr} {os : List CmpOp} {es : List Expr}, PCr S k X W r os es → ∀ (pins : List (Addr × PySem.Obj)) (s : Shared) (σV : L2.St) (H : Hp) (Q : Bool → Hp → Prop) (x : V) (v : PySem.Value) (w : Val) (φ : List Addr) (σ : Sl) (M : Mem),
    Inv X pins σV H s → RelV x v → Rel S φ M H → SR S X φ H σ σV → RX S X φ H w x → TV S (RX S X) φ H (evCmp S.Pr.env (run S.Pr k) r w σ M) (fun (z : V) H' => ∃ b, z = V.bl b ∧ Q b H') (fun c d H' => W c d σV H') →
    wpAny (model X.prog X.w) X.A (testChain pos v os (evalEach es X.env)) (TP X pins σV Q) X.xe s
  | _, _, _, .nil, pins, s, σV, H, Q, x, v, w, φ, σ, M, I, rx, Re, sr, rw', h => by
    rw [evCmp] at h
    exact h.elim
  | _, _, _, .cons (op := op) (o := o) (B := B) (b := b) hc hb _ .nil, pins, s, σV, H, Q, x, v, w, φ, σ, M, I, rx, Re, sr, rw', h => by
    rw [evCmp] at h
    have h1 : tEv S k X W B σV H fun y H1 => ∃ φ1 u M1, Rel S φ1 M1 H1 ∧ Keep φ φ1 H H1 ∧ RX S X φ1 H1 u y ∧ TV S (RX S X) φ1 H1 (match cmpop op w u M1 with | none => .err | some k => R.ok (.bl k) M1) (fun (z : V) H' => ∃ b, z = V.bl b ∧ Q b H') fun c d H' => W c d σV H' := by
      refine ⟨φ, σ, M, Re, sr, ?_⟩
      exact (TV.bind (RV := RX S X) h).mono fun y H1 ⟨φ1, u, M1, R1, K1, r1, h1⟩ => ⟨φ1, u, M1, R1, K1, r1, h1⟩
    refine test_last (thn (hb.run pins s σV H _ I h1) fun u s2 ⟨y, H2, I2, r2, φ1, w2, M1, R1, K1, rw2, h2⟩ => ?_)
    cases e : cmpop op w w2 M1 with
    | none => rw [e] at h2; exact h2.elim
    | some kk =>
      rw [e] at h2
      refine thn (op_cmp G hc pins s2 σV H2 x y v u (fun z H3 => z = .bl kk ∧ H3 = H2) I2 rx r2 ⟨φ1, M1, w, w2, kk, R1, RS.mono K1 rw', rw2, e, rfl, rfl⟩) fun c s3 ⟨z, H3, I3, r3, ez, eh⟩ => ?_
      subst ez
      subst eh
      cases (show c = PySem.Value.bool kk from r3)
      obtain ⟨b, eb, q⟩ := TV.ok R1 (.d rfl (.bl _)) h2
      cases eb
      exact wpAny_truthy_bool ⟨_, I3, q⟩
  | _, _, _, .cons (op := op) (o := o) (B := B) (b := b) hc hb hm (.cons (op := op') (o := o') (B := B') (b := b') (r := r') (os := os') (es := es') hc' hb' hm' hr), pins, s, σV, H, Q, x, v, w, φ, σ, M, I, rx, Re, sr, rw', h => by
    rw [evCmp] at h
    have h1 : tEv S k X W B σV H fun y H1 => ∃ φ1 u M1, Rel S φ1 M1 H1 ∧ Keep φ φ1 H H1 ∧ SR S X φ1 H1 σ σV ∧ RX S X φ1 H1 u y ∧ TV S (RX S X) φ1 H1 (match cmpop op w u M1 with | none => .err | some kb => match kb with | true => evCmp S.Pr.env (run S.Pr k) (.mk op' B' :: r') u σ M1 | false => R.ok (.bl false) M1) (fun (z : V) H' => ∃ b, z = V.bl b ∧ Q b H') fun c d H' => W c d σV H' := by
      refine ⟨φ, σ, M, Re, sr, ?_⟩
      exact (TV.bind (RV := RX S X) h).mono fun y H1 ⟨φ1, u, M1, R1, K1, r1, h1⟩ => ⟨φ1, u, M1, R1, K1, sr.mono K1, r1, h1⟩
    refine test_link (thn (hb.run pins s σV H _ I h1) fun u s2 ⟨y, H2, I2, r2, φ1, w2, M1, R1, K1, sr1, rw2, h2⟩ => ?_)
    cases e : cmpop op w w2 M1 with
    | none => rw [e] at h2; exact h2.elim
    | some kk =>
      rw [e] at h2
      refine thn (op_cmp G hc pins s2 σV H2 x y v u (fun z H3 => z = .bl kk ∧ H3 = H2) I2 rx r2 ⟨φ1, M1, w, w2, kk, R1, RS.mono K1 rw', rw2, e, rfl, rfl⟩) fun c s3 ⟨z, H3, I3, r3, ez, eh⟩ => ?_
      subst ez
      subst eh
      cases (show c = PySem.Value.bool kk from r3)
      refine wpAny_truthy_bool ?_
      cases kk with
      | false =>
        obtain ⟨b, eb, q⟩ := TV.ok R1 (.d rfl (.bl _)) h2
        cases eb
        exact ite_ff ⟨_, I3, q⟩
      | true => exact ite_tt (test_ok G (.cons hc' hb' hm' hr) pins s3 σV _ Q y u w2 φ1 σ M1 I3 r2 R1 sr1 rw2 h2)
theorem evCmp_bl {P : Env} {o : Oracle} : ∀ {r : List Cr} {x : Val} {σ : Sl} {M M' : Mem} {v : Val}, evCmp P o r x σ M = .ok v M' → ∃ b, v = .bl b
  | [], _, _, _, _, _, e => by rw [evCmp] at e; cases e
  | .mk op b :: cs, x, σ, M, M', v, e => by
    rw [evCmp] at e
    cases e1 : ev P o b σ M with
    | ok y M1 =>
      rw [e1] at e
      have e : (match cmpop op x y M1 with | none => R.err | some kb => match cs.isEmpty with | true => R.ok (Val.bl kb) M1 | false => match kb with | true => evCmp P o cs y σ M1 | false => R.ok (Val.bl false) M1) = .ok v M' := e
      split at e
      · cases e
      · split at e
        · cases e; exact ⟨_, rfl⟩
        · split at e
          · exact evCmp_bl e
          · cases e; exact ⟨_, rfl⟩
    | exc _ _ => rw [e1] at e; cases e
    | err => rw [e1] at e; cases e

theorem cmp_start {δ : Type} {RW : List Addr → Hp → Val → δ → Prop} {A : Ex} {r : List Cr} {σV : L2.St} {H : Hp} {Q : δ → Hp → Prop} (h : tE S X W RW (fun σ M => ev S.Pr.env (run S.Pr k) (.cmp A r) σ M) σV H Q) :
    tEv S k X W A σV H fun x H1 => ∃ φ σ M w, Rel S φ M H1 ∧ SR S X φ H1 σ σV ∧ RX S X φ H1 w x ∧ TV S RW φ H1 (evCmp S.Pr.env (run S.Pr k) r w σ M) Q fun c d H' => W c d σV H' :=
  tE_mono (tE_bind (RV := RX S X) (g := fun σ x M => evCmp S.Pr.env (run S.Pr k) r x σ M) (tE_cong h fun σ M => by rw [ev])) fun x H1 ⟨φ, σ, v, M, Re, sr, rv, h1⟩ => ⟨φ, σ, M, v, Re, sr, rv, h1⟩
theorem e_cmp (G : Good S k X) {A : Ex} {a : Expr} {r : List Cr} {os : List CmpOp} {es : List Expr} {pos : Pos} (ha : PE X a (tEv S k X W A)) (hr : PCr S k X W r os es) : PE X (.Compare a os es pos) (tEv S k X W (.cmp A r)) := by
  refine ⟨fun pins s σV H Q I h => ?_⟩
  show wpAny _ _ (do compareChain pos (← eval a X.env) os (markedEach os es (evalEach es X.env))) _ _ _
  rw [markedEach_of_false _ _ _ hr.marks]
  exact wpAny_bind (thn (ha.run pins s σV H _ I (cmp_start h)) fun v s1 ⟨x, H1, I1, r1, φ, σ, M, w, Re, sr, rw', h1⟩ => chain_ok G hr pins s1 σV H1 Q x v w φ σ M I1 r1 Re sr rw' h1)
theorem t_cmp (G : Good S k X) {A : Ex} {a : Expr} {r : List Cr} {os : List CmpOp} {es : List Expr} {pos : Pos} (ha : PE X a (tEv S k X W A)) (hr : PCr S k X W r os es) : PT X (.Compare a os es pos) (tTv S k X W (.cmp A r)) := by
  refine ⟨fun pins s σV H Q I h => ?_⟩
  show wpAny _ _ (do testChain pos (← eval a X.env) os (markedEach os es (evalEach es X.env))) _ _ _
  rw [markedEach_of_false _ _ _ hr.marks]
  have h' : tEv S k X W (.cmp A r) σV H (fun (z : V) H' => ∃ b, z = V.bl b ∧ Q b H') := by
    obtain ⟨φ, σ, M, Re, sr, h⟩ := h
    refine ⟨φ, σ, M, Re, sr, ?_⟩
    have h : TV S REq φ H ((ev S.Pr.env (run S.Pr k) (.cmp A r) σ M).bind fun v M => okO M (truthy M v)) Q _ := h
    have hb : ∀ v M', ev S.Pr.env (run S.Pr k) (.cmp A r) σ M = .ok v M' → ∃ b, v = .bl b := by
      intro v M' e
      rw [ev] at e
      cases e1 : ev S.Pr.env (run S.Pr k) A σ M with
      | ok x M1 => rw [e1] at e; exact evCmp_bl (show evCmp S.Pr.env (run S.Pr k) r x σ M1 = .ok v M' from e)
      | exc _ _ => rw [e1] at e; cases e
      | err => rw [e1] at e; cases e
    show TV S _ φ H (ev S.Pr.env (run S.Pr k) (.cmp A r) σ M) _ _
    cases e : ev S.Pr.env (run S.Pr k) (.cmp A r) σ M with
    | ok v M' =>
      obtain ⟨b, rfl⟩ := hb v M' e
      rw [e] at h
      exact fun φ' H' x R' K' r' => ⟨b, r'.bl_, h φ' H' b R' K' rfl⟩
    | exc x M' => rw [e] at h; exact h
    | err => rw [e] at h; exact h
  exact wpAny_bind (thn (ha.run pins s σV H _ I (cmp_start h')) fun v s1 ⟨x, H1, I1, r1, φ, σ, M, w, Re, sr, rw', h1⟩ => test_ok G hr pins s1 σV H1 Q x v w φ σ M I1 r1 Re sr rw' h1)
end
end Mi
end
section
set_option Elab.async false
set_option linter.all false
set_option maxRecDepth 100000
/-! S8: slices, fields, isinstance. -/
namespace Mi
open PySem PySem.Spec PyProof.Rows
open L2 (V Hp HO SqL SqT RelV upd upd_same upd_ne ne_of ne_of_none Key Cx Inv PE PT PW PA PC TE TT TA VK Vis Takes WX XK Room OpR Dp DpAll thn TyX TyOf ClsV Vals EP TP PO)

section
variable {S : Link} {k : Nat} {X : Cx} {W : WX} {L : Bool}
/-! ### slices -/
abbrev tOv (S : Link) (k : Nat) (X : Cx) (W : WX) (A : Option Ex) : L2.TO := tE S X W REq (fun σ M => evOpt S.Pr.env (run S.Pr k) A σ M)
theorem PO_imp {e : Option Expr} {t u : L2.TO} (h : PO X e t) (i : ∀ σ H Q, u σ H Q → t σ H Q) : PO X e u := ⟨fun pins s σ H Q I hu => h.run pins s σ H Q I (i σ H Q hu)⟩
theorem o_none : PO X none (tOv S k X W none) := PO_imp L2.po_none fun σV H Q ⟨φ, σ, M, Re, sr, h⟩ => by
  have h : TV S REq φ H (evOpt S.Pr.env (run S.Pr k) none σ M) Q _ := h
  rw [evOpt] at h
  exact TV.ok Re rfl h
theorem o_some {A : Ex} {a : Expr} (ha : PE X a (tEv S k X W A)) : PO X (some a) (tOv S k X W (some A)) := PO_imp (L2.po_some ha) fun σV H Q h => by
  refine tE_mono (tE_one (g := fun v M => match v with | .int i => .ok (some i) M | _ => .err) (tE_cong h fun σ M => by rw [evOpt] <;> rfl)) fun x H1 ⟨φ, M, v, Re, r, h1⟩ => ?_
  cases v with
  | int i => rw [r.int_]; exact ⟨i, rfl, TV.ok Re rfl h1⟩
  | _ => exact h1.elim
theorem e_sl (G : Good S k X) {A : Ex} {a : Expr} {lo hi : Option Ex} {l h : Option Expr} {p2 pos : Pos} (ha : PE X a (tEv S k X W A)) (hl : PO X l (tOv S k X W lo)) (hh : PO X h (tOv S k X W hi)) : PE X (.Subscript a (.Slice l h none p2) pos) (tEv S k X W (.sl A lo hi)) := by
  refine PE_imp (L2.pe_slice (sl_ok G) ha hl hh) fun σV H Q h => ?_
  refine tE_mono (tE_bind (RV := RX S X) (g := fun σ x M => (evOpt S.Pr.env (run S.Pr k) lo σ M).bind fun l M => (evOpt S.Pr.env (run S.Pr k) hi σ M).bind fun h M => slice x l h M) (tE_cong h fun σ M => by rw [ev])) fun x H1 ⟨φ, σ, v, M, Re, sr, r, h1⟩ => ?_
  refine ⟨φ, σ, M, Re, sr, (TV.bind (RV := REq) h1).mono fun y H2 ⟨φ2, u, M2, R2, K2, r2, h2⟩ => ?_⟩
  cases (show u = y from r2)
  refine ⟨φ2, σ, M2, R2, sr.mono K2, (TV.bind (RV := REq) h2).mono fun z H3 ⟨φ3, w, M3, R3, K3, r3, h3⟩ => ?_⟩
  cases (show w = z from r3)
  exact ⟨φ3, M3, v, R3, RS.mono (K2.trans K3) r, TV.noexc slice_ne h3⟩

/-! ### fields -/
theorem base_of {e : Expr} {n : Str} (h : noSup e = true) : attributeBase e n X.env (eval e X.env) = eval e X.env := by
  unfold noSup at h
  split at h
  · rename_i x p q
    have h : (x == ("super" : Str)) = false := by simpa using h
    have h' : (x != ("super" : Str)) = true := by simp [bne, h]
    unfold attributeBase
    simp [h']
  · rename_i hne
    unfold attributeBase
    split
    · rename_i x p q
      exact (hne x p q rfl).elim
    · rfl
/-- a field of an instance, of a handled exception -/
def tFx (K : PySem.W.Frag) (pn : List (Addr × PySem.Obj)) (ta : TE) (f : Str) : TE := fun σ H Q => ta σ H fun x H1 => (∃ a C dx fs v, x = .ref a ∧ H1 a = some (.ins C dx fs) ∧ L2.Cls K C ∧ L2.NoAttr K C f ∧ fs.lookup f = some v ∧ Q v H1) ∨
  (∃ a C oe d fs v, x = .ref a ∧ (a, oe) ∈ pn ∧ L2.Zc (.ref C) (some d) oe ∧ (∃ vs, oe.data = .fields vs) ∧ L2.XfC K C ∧ PySem.W.findIn K (.ref C) f = some none ∧ H1 d = some (.xd fs) ∧ fs.lookup f = some v ∧ Q v H1)
theorem pe_fx {e : Expr} {ta : TE} {f : Str} {pos : Pos} (he : PE X e ta) (hb : attributeBase e f X.env (eval e X.env) = eval e X.env) : PE X (.Attribute e f pos) (tFx X.K X.pn ta f) := by
  refine ⟨fun pins s σ H Q I h => ?_⟩
  refine L2.attr_of hb (thn (he.run pins s σ H _ I h) fun u s1 ⟨x, H1, I1, rx, hh⟩ => ?_)
  rcases hh with ⟨a, C, dx, fs, v, ex, ea, c, n, l, q⟩ | ⟨a, C, oe, dd, fs, v, ex, hm, hz, ⟨vs, hd⟩, T, hno, ea, l, q⟩
  · subst ex
    obtain rfl : u = PySem.Value.ref a := rx
    exact L2.getattr_ok I1 ea c n l fun u' s2 I2 ru => ⟨v, H1, I2, ru, q⟩
  · subst ex
    obtain rfl : u = PySem.Value.ref a := rx
    obtain ⟨ha, _⟩ := I1.pin (a, oe) (List.mem_append_left _ hm)
    have hx : L2.ObjOk X.prog X.w H1 s1.heap dd (.xd fs) := I1.hok dd _ ea
    obtain ⟨mA, hns, hr⟩ := hx
    obtain ⟨od, ho, hl⟩ := L2.lookIn_ns hns
    obtain ⟨u, hu, ru⟩ := L2.RelO.some_of (v := v) (o := mA f) (by rw [← l]; exact hr f)
    have J : PySem.W.InstAt s1.heap a oe C (some od) := ⟨ha, hz.1, by unfold PySem.W.notCls; rw [hd] <;> rfl, by rw [hz.2]; exact ho⟩
    exact HandSPX.exc_get I1.kIn J T.ga T.gg T.exC (PySem.W.findObj_own T.hdC hno rfl (by rw [hl, hu])) (L2.handed_of ru) ⟨v, H1, I1.tok _, ru, q⟩
theorem RS.exv_ {base : Heap} {pn : List (Addr × PySem.Obj)} {φ : List Addr} {H : Hp} {c : Nm} {fs : List (Nm × Val)} {x : V} (r : RS S base pn φ H (.exv c fs) x) :
    ∃ s ys a C d oe, x = .ref a ∧ (a, oe) ∈ pn ∧ L2.Zc (.ref C) (some d) oe ∧ (∃ vs, oe.data = .fields vs) ∧ S.T.names[c]? = some s ∧ S.mg s = some (.ref C) ∧ H d = some (.xd ys) ∧ RFs S φ H fs ys := by
  cases r with
  | d h _ => cases h
  | exv h1 h2 h3 h4 h5 h6 h7 => exact ⟨_, _, _, _, _, _, rfl, h1, h2, h3, h4, h5, h6, h7⟩
theorem e_fld (G : Good S k X) (F : Facts S) {A : Ex} {a : Expr} {f : Nm} {n : Str} {pos : Pos} (ha : PE X a (tEv S k X W A)) (hf : S.T.names[f]? = some n) (hs : noSup a = true) : PE X (.Attribute a n pos) (tEv S k X W (.fld A f)) := by
  refine PE_imp (pe_fx ha (base_of hs)) fun σV H Q h => ?_
  refine tE_mono (tE_one h) fun x H1 ⟨φ, M, v, Re, r, h1⟩ => ?_
  rw [G.K]
  split at h1
  · rename_i m
    split at h1
    · rename_i c fs hm
      obtain ⟨p, rfl, hp⟩ := r.ref_
      obtain ⟨s, C, dx, ys, h0, e1, e2, e3, e4⟩ := Re.ins hp hm
      split at h1
      · rename_i hcf
        obtain ⟨hc1, hc2⟩ := Bool.and_eq_true_iff.mp hcf
        cases e : fs.lookup f with
        | none => rw [e] at h1; exact h1.elim
        | some z =>
          rw [e] at h1
          obtain ⟨zx, l, rz⟩ := e4.lookup G.names hf e
          exact .inl ⟨p, C, dx, ys, zx, rfl, e3, (F.kit c s C e1 e2 h0).2.1, F.fld c s C f n e1 e2 h0 hc2 hf, l, TV.ok Re (.d rz.isD rz) h1⟩
      · exact h1.elim
    · exact h1.elim
  · rename_i c fs
    obtain ⟨s, ys, p, C, d, oe, rfl, h1', h2, h3, h4, h5, h6, h7⟩ := r.exv_
    split at h1
    · rename_i hcf
      obtain ⟨hc1, hc2⟩ := Bool.and_eq_true_iff.mp hcf
      cases e : fs.lookup f with
      | none => rw [e] at h1; exact h1.elim
      | some z =>
        rw [e] at h1
        obtain ⟨zx, l, rz⟩ := h7.lookup G.names hf e
        exact .inr ⟨p, C, oe, d, ys, zx, rfl, h1', h2, h3, F.xf c s C h4 h5 hc1, F.xfld c s C f n h4 h5 hc1 hc2 hf, h6, l, TV.ok Re (.d rz.isD rz) h1⟩
    · exact h1.elim
  · exact h1.elim

/-! ### isinstance -/
/-- the class that a test names -/
inductive ClsOf (S : Link) : CN → PySem.Value → Prop
  | int : ClsOf S .int (.type "int")
  | bool : ClsOf S .bool (.type "bool")
  | str : ClsOf S .str (.type "str")
  | list : ClsOf S .list (.type "list")
  | tuple : ClsOf S .tuple (.type "tuple")
  | own {c : Nm} {s : Str} {C : Addr} : S.T.names[c]? = some s → S.mg s = some (.ref C) → ClsOf S (.own c) (.ref C)
/-- a type by its name, as isinstance answers -/
theorem kit_prim (F : Facts S) {n : String} (hn : n ∈ (["NoneType", "bool", "int", "str", "list", "tuple"] : List String)) {c : CN} {u : PySem.Value} (h : ClsOf S c u) (ho : ownOk S.Pr.env c = true) (f : CN → Bool)
    (h1 : L2.kitB n "int" = some (f .int)) (h2 : L2.kitB n "bool" = some (f .bool)) (h3 : L2.kitB n "str" = some (f .str)) (h4 : L2.kitB n "list" = some (f .list)) (h5 : L2.kitB n "tuple" = some (f .tuple)) (h6 : ∀ e, f (.own e) = false) :
    PySem.W.kitOne S.K (.type n) u = some (f c) := by
  cases h with
  | int => exact L2.kit_ty h1
  | bool => exact L2.kit_ty h2
  | str => exact L2.kit_ty h3
  | list => exact L2.kit_ty h4
  | tuple => exact L2.kit_ty h5
  | own e1 e2 => rw [h6]; exact ((F.kit _ _ _ e1 e2 ho).1 n hn).1
/-- a value's type -/
theorem ty_of (G : Good S k X) (F : Facts S) {φ : List Addr} {H : Hp} {M : Mem} {v : Val} {x : V} {b0 : Bool} {c0 : CN} (Re : Rel S φ M H) (r : RX S X φ H v x) (h0 : isCN M c0 v = some b0) :
    ∃ t, TyX S.K H x t ∧ ∀ c u b, ClsOf S c u → ownOk S.Pr.env c = true → isCN M c v = some b → PySem.W.kitOne S.K t u = some b := by
  unfold isCN at h0
  split at h0
  · rw [r.non_]
    refine ⟨_, .base .non, fun c u b hc ho hb => ?_⟩
    cases hb
    exact kit_prim F (n := "NoneType") (by decide) hc ho (fun _ => false) (by decide +kernel) (by decide +kernel) (by decide +kernel) (by decide +kernel) (by decide +kernel) fun _ => rfl
  · rw [r.bl_]
    refine ⟨_, .base (.bl _), fun c u b hc ho hb => ?_⟩
    cases hb
    exact kit_prim F (n := "bool") (by decide) hc ho (fun c => match c with | .int => true | .bool => true | _ => false) (by decide +kernel) (by decide +kernel) (by decide +kernel) (by decide +kernel) (by decide +kernel) fun _ => rfl
  · rw [r.int_]
    refine ⟨_, .base (.int _), fun c u b hc ho hb => ?_⟩
    cases hb
    exact kit_prim F (n := "int") (by decide) hc ho (fun c => match c with | .int => true | _ => false) (by decide +kernel) (by decide +kernel) (by decide +kernel) (by decide +kernel) (by decide +kernel) fun _ => rfl
  · rw [r.str_]
    refine ⟨_, .base (.str _), fun c u b hc ho hb => ?_⟩
    cases hb
    exact kit_prim F (n := "str") (by decide) hc ho (fun c => match c with | .str => true | _ => false) (by decide +kernel) (by decide +kernel) (by decide +kernel) (by decide +kernel) (by decide +kernel) fun _ => rfl
  · obtain ⟨a, xs, rfl, hx, _⟩ := r.tup_
    refine ⟨.type "tuple", ?_, fun c u b hc ho hb => ?_⟩
    · rcases hx with (hx | ⟨o, hx⟩) | ⟨o, its, n, hx, hcl, _⟩
      · exact .base (.tup hx)
      · exact .fTuple hx
      · exact .kTuple hx hcl
    cases hb
    exact kit_prim F (n := "tuple") (by decide) hc ho (fun c => match c with | .tuple => true | _ => false) (by decide +kernel) (by decide +kernel) (by decide +kernel) (by decide +kernel) (by decide +kernel) fun _ => rfl
  · obtain ⟨a, xs, rfl, hx, _⟩ := r.rl_
    refine ⟨.type "list", ?_, fun c u b hc ho hb => ?_⟩
    · rcases hx with (hx | ⟨o, hx⟩) | ⟨o, its, n, hx, hcl, _⟩
      · exact .base (.lst hx)
      · exact .base (.frz hx)
      · exact .kList hx hcl
    cases hb
    exact kit_prim F (n := "list") (by decide) hc ho (fun c => match c with | .list => true | _ => false) (by decide +kernel) (by decide +kernel) (by decide +kernel) (by decide +kernel) (by decide +kernel) fun _ => rfl
  · split at h0
    · rename_i m _ vs hm
      obtain ⟨a, rfl, hn⟩ := r.ref_
      obtain ⟨xs, hx, _⟩ := Re.lst hn hm
      refine ⟨.type "list", .base (.lst hx), fun c u b hc ho hb => ?_⟩
      unfold isCN at hb
      dsimp only at hb
      rw [hm] at hb
      cases hb
      exact kit_prim F (n := "list") (by decide) hc ho (fun c => match c with | .list => true | _ => false) (by decide +kernel) (by decide +kernel) (by decide +kernel) (by decide +kernel) (by decide +kernel) fun _ => rfl
    · rename_i m d fs hm
      obtain ⟨a, rfl, hn⟩ := r.ref_
      obtain ⟨s, C, dx, ys, i0, e1, e2, e3, e4⟩ := Re.ins hn hm
      obtain ⟨k1, k2, k3, k4, k5, k6, k7⟩ := F.kit d s C e1 e2 i0
      refine ⟨.ref C, .base (.ins e3 k2 k3 k4 k5 k6), fun c u b hc ho hb => ?_⟩
      unfold isCN at hb
      dsimp only at hb
      rw [hm] at hb
      cases hc with
      | int => cases hb; exact (k1 "int" (by decide)).2
      | bool => cases hb; exact (k1 "bool" (by decide)).2
      | str => cases hb; exact (k1 "str" (by decide)).2
      | list => cases hb; exact (k1 "list" (by decide)).2
      | tuple => cases hb; exact (k1 "tuple" (by decide)).2
      | own f1 f2 => cases hb; exact k7 _ _ _ f1 f2 ho
    · cases h0
  · cases h0
theorem kit_any (G : Good S k X) (F : Facts S) {M : Mem} {v : Val} {t : PySem.Value} (h : ∀ c u b, ClsOf S c u → ownOk S.Pr.env c = true → isCN M c v = some b → PySem.W.kitOne S.K t u = some b) :
    ∀ {cs : List CN} {us : List PySem.Value} {b : Bool}, Paired (ClsOf S) cs us → cs.all (ownOk S.Pr.env) = true → isAny M v cs = some b → PySem.W.kitAny S.K t us = some b
  | [], _, b, .nil, _, hb => by cases hb; rfl
  | c :: cs, u :: us, b, .cons hc hcs, ho, hb => by
    have ho : (ownOk S.Pr.env c && cs.all (ownOk S.Pr.env)) = true := ho
    obtain ⟨o1, o2⟩ := Bool.and_eq_true_iff.mp ho
    have hb : (match isCN M c v with | some true => some true | some false => isAny M v cs | none => none) = some b := hb
    split at hb
    · rename_i e
      cases hb
      exact L2.kitAny_cons (h c u true hc o1 e) (fun z => nomatch z) fun _ => rfl
    · rename_i e
      exact L2.kitAny_cons (h c u false hc o1 e) (fun _ => kit_any G F h hcs o2 hb) fun z => nomatch z
    · cases hb
end
end Mi
end
section
set_option Elab.async false
set_option linter.all false
set_option maxRecDepth 100000
/-! S9: isinstance as a call; built-in functions. -/
namespace Mi
open PySem PySem.Spec PyProof.Rows
open L2 (V Hp HO SqL SqT RelV upd upd_same upd_ne ne_of ne_of_none Key Cx Inv PE PT PW PA PC TE TT TA VK Vis Takes WX XK Room OpR Dp DpAll thn TyX TyOf ClsV Vals EP TP PO CallR)

section
variable {S : Link} {k : Nat} {X : Cx} {W : WX} {L : Bool}
theorem pe_never {e : Expr} : PE X e (fun _ _ _ => False) := ⟨fun _ _ _ _ _ _ h => h.elim⟩
theorem blt (G : Good S k X) {x b : Str} (h : bltOk S.T X.env.scope x b = true) : x = b ∧ L2.Gl X b ∧ X.mg b = none := by
  obtain ⟨h1, h2, h3⟩ := bltOk_of h
  exact ⟨h1, h2, by rw [G.mg]; exact G.free _ h3⟩
theorem cn_pe (G : Good S k X) (F : Facts S) {c : CN} {e : Expr} (h : chkCN S.T X.env.scope c e = true) (ho : ownOk S.Pr.env c = true) :
    ∃ cV u, PE X e (L2.tC cV) ∧ ClsV cV u ∧ ClsOf S c u ∧ ∀ es env, starEach (e :: es) env = (false, eval e env) :: starEach es env := by
  cases c with
  | int =>
    cases e <;> first | (cases h; done) | skip
    obtain ⟨rfl, hg, hm⟩ := blt G (show bltOk S.T X.env.scope _ "int" = true from h)
    exact ⟨.ty "int", _, L2.pe_bltn hg hm (by first | rfl | decide +kernel | kernel_rfl) rfl, .ty _, .int, fun _ _ => rfl⟩
  | bool =>
    cases e <;> first | (cases h; done) | skip
    obtain ⟨rfl, hg, hm⟩ := blt G (show bltOk S.T X.env.scope _ "bool" = true from h)
    exact ⟨.ty "bool", _, L2.pe_bltn hg hm (by first | rfl | decide +kernel | kernel_rfl) rfl, .ty _, .bool, fun _ _ => rfl⟩
  | str =>
    cases e <;> first | (cases h; done) | skip
    obtain ⟨rfl, hg, hm⟩ := blt G (show bltOk S.T X.env.scope _ "str" = true from h)
    exact ⟨.ty "str", _, L2.pe_bltn hg hm (by first | rfl | decide +kernel | kernel_rfl) rfl, .ty _, .str, fun _ _ => rfl⟩
  | list =>
    cases e <;> first | (cases h; done) | skip
    obtain ⟨rfl, hg, hm⟩ := blt G (show bltOk S.T X.env.scope _ "list" = true from h)
    exact ⟨.ty "list", _, L2.pe_bltn hg hm (by first | rfl | decide +kernel | kernel_rfl) rfl, .ty _, .list, fun _ _ => rfl⟩
  | tuple =>
    cases e <;> first | (cases h; done) | skip
    obtain ⟨rfl, hg, hm⟩ := blt G (show bltOk S.T X.env.scope _ "tuple" = true from h)
    exact ⟨.ty "tuple", _, L2.pe_bltn hg hm (by first | rfl | decide +kernel | kernel_rfl) rfl, .ty _, .tuple, fun _ _ => rfl⟩
  | own c =>
    cases e <;> first | (cases h; done) | skip
    obtain ⟨h1, h2, h3⟩ := gloOk_of (show gloOk S.T X.env.scope c _ = true from h)
    obtain ⟨s, C, e1, e2⟩ := F.cls c ho
    rw [h1] at e1; cases e1
    exact ⟨.ref C, .ref C, L2.pe_glob h2 (by rw [G.mg]; exact e2) rfl h3, .own C, .own h1 e2, fun _ _ => rfl⟩
def tCs (cs : List V) : TA := fun _ H Q => Q cs H
theorem cn_pa (G : Good S k X) (F : Facts S) : ∀ {cs : List CN} {es : List Expr}, chkCNs S.T X.env.scope cs es = true → cs.all (ownOk S.Pr.env) = true → es.length ≤ 1000 →
    ∃ vs us, PA X es (tCs vs) ∧ Paired ClsV vs us ∧ Paired (ClsOf S) cs us ∧ vs.length = es.length
  | [], [], _, _, _ => ⟨[], [], PA_imp L2.pa_nil fun _ _ _ h => h, .nil, .nil, rfl⟩
  | c :: cs, e :: es, h, ho, hl => by
    obtain ⟨h1, h2⟩ := Bool.and_eq_true_iff.mp (show (chkCN S.T X.env.scope c e && chkCNs S.T X.env.scope cs es) = true from h)
    obtain ⟨o1, o2⟩ := Bool.and_eq_true_iff.mp (show (ownOk S.Pr.env c && cs.all (ownOk S.Pr.env)) = true from ho)
    obtain ⟨cV, u, p1, p2, p3, p4⟩ := cn_pe G F h1 o1
    obtain ⟨vs, us, q1, q2, q3, q4⟩ := cn_pa G F h2 o2 (by simp at hl; omega)
    exact ⟨cV :: vs, u :: us, PA_imp (L2.pa_cons p1 q1 (p4 _ _)) fun _ _ _ h => h, .cons p2 q2, .cons p3 q3, congrArg (· + 1) q4⟩
  | [], _ :: _, h, _, _ => by cases h
  | _ :: _, [], h, _, _ => by cases h
theorem isi_start {A : Ex} {cs : List CN} {σV : L2.St} {H : Hp} {Q : VK} (h : tEv S k X W (.isi A cs) σV H Q) :
    tEv S k X W A σV H fun x H1 => cs.all (ownOk S.Pr.env) = true ∧ ∃ φ M v b, Rel S φ M H1 ∧ RX S X φ H1 v x ∧ isAny M v cs = some b ∧ TV S (RX S X) φ H1 (R.ok (Val.bl b) M) Q fun c d H' => W c d σV H' :=
  tE_mono (tE_one (g := fun x M => match cs.all (ownOk S.Pr.env) with | true => (match isAny M x cs with | some b => .ok (.bl b) M | none => .err) | false => .err) (tE_cong h fun σ M => by rw [ev] <;> rfl)) fun x H1 ⟨φ, M, v, Re, r, h1⟩ => by
    split at h1
    · rename_i ho
      split at h1
      · rename_i b hb
        exact ⟨ho, φ, M, v, b, Re, r, hb, h1⟩
      · exact h1.elim
    · exact h1.elim
theorem isAny_some {M : Mem} {v : Val} {cs : List CN} {b : Bool} (hne : cs ≠ []) (h : isAny M v cs = some b) : ∃ c b0, isCN M c v = some b0 := by
  cases cs with
  | nil => exact (hne rfl).elim
  | cons c cs =>
    have h : (match isCN M c v with | some true => some true | some false => isAny M v cs | none => none) = some b := h
    cases e : isCN M c v with
    | none => rw [e] at h; cases h
    | some b0 => exact ⟨c, b0, e⟩
theorem star_nil {e : Expr} : starEach [e] X.env = (false, eval e X.env) :: starEach [] X.env → True := fun _ => trivial
theorem any_false : (backTo pos (starEach ([] : List Expr) X.env)).any (·.1) = false := rfl
theorem e_isi1 (G : Good S k X) (F : Facts S) {A : Ex} {a e : Expr} {c : CN} {f : Str} {p pos : Pos} (ha : PE X a (tEv S k X W A)) (hs : ∀ es, starEach (a :: es) X.env = (false, eval a X.env) :: starEach es X.env) (hf : bltOk S.T X.env.scope f "isinstance" = true) (hc : chkCN S.T X.env.scope c e = true) :
    PE X (.Call (.Name f p) [a, e] [] pos) (tEv S k X W (.isi A [c])) := by
  obtain ⟨rfl, hg, hm⟩ := blt G hf
  have hse : ∀ es, starEach (e :: es) X.env = (false, eval e X.env) :: starEach es X.env := by
    intro es
    cases c <;> cases e <;> first | rfl | (cases hc; done)
  have hpl : (backTo pos (starEach [e] X.env)).any (·.1) = false := by rw [hse]; rfl
  by_cases ho : ownOk S.Pr.env c = true
  · obtain ⟨cV, u, p1, p2, p3, p4⟩ := cn_pe G F hc ho
    refine PE_imp (L2.pe_callB L2.call_isi hg hm (by first | rfl | decide +kernel | kernel_rfl) (L2.pa_cons ha (L2.pa_cons p1 L2.pa_nil (hse _)) (hs _)) (by decide) (by decide) (hs _) hpl) fun σV H Q h => ?_
    refine tE_mono (isi_start h) fun x H1 ⟨_, φ, M, v, b, Re, r, hb, h1⟩ => ?_
    obtain ⟨c0, b0, h0⟩ := isAny_some (by simp) hb
    obtain ⟨t, ty, hk⟩ := ty_of G F Re r h0
    have hb : isCN M c v = some b := by
      have hb : (match isCN M c v with | some true => some true | some false => some false | none => none) = some b := hb
      cases e : isCN M c v with
      | none => rw [e] at hb; cases hb
      | some b1 => rw [e] at hb; cases b1 <;> exact hb
    exact ⟨x, cV, t, u, b, rfl, p2, by rw [G.K]; exact ty, by rw [G.K]; exact hk c u b p3 ho hb, TV.ok Re (.d rfl (.bl b)) h1⟩
  · refine PE_imp (L2.pe_callB L2.call_isi hg hm (by first | rfl | decide +kernel | kernel_rfl) (L2.pa_cons ha (L2.pa_cons pe_never L2.pa_nil (hse _)) (hs _)) (by decide) (by decide) (hs _) hpl) fun σV H Q h => ?_
    refine tE_mono (isi_start h) fun x H1 ⟨h', _⟩ => ?_
    simp at h'
    exact (ho h').elim
theorem e_isiT (G : Good S k X) (F : Facts S) {A : Ex} {a : Expr} {es : List Expr} {cs : List CN} {f : Str} {p p2 pos : Pos} {x1 : Nat} (ha : PE X a (tEv S k X W A)) (hs : ∀ es, starEach (a :: es) X.env = (false, eval a X.env) :: starEach es X.env) (hf : bltOk S.T X.env.scope f "isinstance" = true)
    (hc : chkCNs S.T X.env.scope cs es = true) (hl : es.length ≤ 1000) (hne : cs ≠ []) : PE X (.Call (.Name f p) [a, .Tuple es x1 p2] [] pos) (tEv S k X W (.isi A cs)) := by
  obtain ⟨rfl, hg, hm⟩ := blt G hf
  have hpl : (backTo pos (starEach [.Tuple es x1 p2] X.env)).any (·.1) = false := rfl
  by_cases ho : cs.all (ownOk S.Pr.env) = true
  · obtain ⟨vs, us, p1, p2, p3, p4⟩ := cn_pa G F hc ho hl
    refine PE_imp (L2.pe_callB L2.call_isiT hg hm (by first | rfl | decide +kernel | kernel_rfl) (L2.pa_cons ha (L2.pa_cons (L2.pe_tup p1) L2.pa_nil rfl) (hs _)) (by decide) (by decide) (hs _) hpl) fun σV H Q h => ?_
    refine tE_mono (isi_start h) fun x H1 ⟨_, φ, M, v, b, Re, r, hb, h1⟩ => ⟨line_1000 (by omega), fun q hq => ?_⟩
    obtain ⟨c0, b0, h0⟩ := isAny_some hne hb
    have K : Keep φ φ H1 (upd H1 q (.tup vs)) := keep_new hq
    obtain ⟨t, ty, hk⟩ := ty_of (X := X) G F (Re.new hq) (RS.mono K r) h0
    exact ⟨x, q, vs, t, us, b, rfl, upd_same, p2, by rw [G.K]; exact ty, by rw [G.K]; exact kit_any G F hk p3 ho hb, h1 φ _ (.bl b) (Re.new hq) K (.d rfl (.bl b))⟩
  · refine PE_imp (L2.pe_callB L2.call_isi hg hm (by first | rfl | decide +kernel | kernel_rfl) (L2.pa_cons ha (L2.pa_cons pe_never L2.pa_nil rfl) (hs _)) (by decide) (by decide) (hs _) hpl) fun σV H Q h => ?_
    refine tE_mono (isi_start h) fun x H1 ⟨h', _⟩ => ?_
    exact (ho h').elim
end
end Mi
end
section
set_option Elab.async false
set_option linter.all false
set_option maxRecDepth 100000
/-! S10: built-in functions, append. -/
namespace Mi
open PySem PySem.Spec PyProof.Rows
open L2 (V Hp HO SqL SqT RelV upd upd_same upd_ne ne_of ne_of_none Key Cx Inv PE PT PW PA PC TE TT TA VK Vis Takes WX XK Room OpR Dp DpAll thn TyX TyOf ClsV Vals EP TP PO CallR)

theorem bi_ne {b : Bi} {vs : List Val} {M : Mem} : NoExc (bi b vs M) := by
  intro e M'
  unfold bi
  repeat' split
  all_goals (intro z; cases z)
theorem me_ne {b : Me} {a : Val} {vs : List Val} {M : Mem} : NoExc (me b a vs M) := by
  intro e M'
  unfold me
  repeat' split
  all_goals (intro z; cases z)
theorem fold_max : ∀ (is : List Int) (i : Int), (is.foldl maxI i = i ∨ is.foldl maxI i ∈ is) ∧ i ≤ is.foldl maxI i ∧ ∀ y ∈ is, y ≤ is.foldl maxI i
  | [], i => ⟨.inl rfl, Int.le_refl _, fun y h => nomatch h⟩
  | j :: js, i => by
    obtain ⟨h1, h2, h3⟩ := fold_max js (maxI i j)
    have hm : (maxI i j = i ∨ maxI i j = j) ∧ i ≤ maxI i j ∧ j ≤ maxI i j := by
      unfold maxI
      split <;> omega
    show (js.foldl maxI (maxI i j) = i ∨ js.foldl maxI (maxI i j) ∈ j :: js) ∧ i ≤ js.foldl maxI (maxI i j) ∧ ∀ y ∈ j :: js, y ≤ js.foldl maxI (maxI i j)
    refine ⟨?_, by omega, fun y hy => ?_⟩
    · rcases h1 with h1 | h1
      · rw [h1]
        rcases hm.1 with e | e
        · exact .inl e
        · exact .inr (by rw [e]; exact List.mem_cons_self)
      · exact .inr (List.mem_cons_of_mem _ h1)
    · rcases List.mem_cons.mp hy with e | e
      · subst e; omega
      · exact h3 y e
theorem fold_min : ∀ (is : List Int) (i : Int), (is.foldl minI i = i ∨ is.foldl minI i ∈ is) ∧ is.foldl minI i ≤ i ∧ ∀ y ∈ is, is.foldl minI i ≤ y
  | [], i => ⟨.inl rfl, Int.le_refl _, fun y h => nomatch h⟩
  | j :: js, i => by
    obtain ⟨h1, h2, h3⟩ := fold_min js (minI i j)
    have hm : (minI i j = i ∨ minI i j = j) ∧ minI i j ≤ i ∧ minI i j ≤ j := by
      unfold minI
      split <;> omega
    show (js.foldl minI (minI i j) = i ∨ js.foldl minI (minI i j) ∈ j :: js) ∧ js.foldl minI (minI i j) ≤ i ∧ ∀ y ∈ j :: js, js.foldl minI (minI i j) ≤ y
    refine ⟨?_, by omega, fun y hy => ?_⟩
    · rcases h1 with h1 | h1
      · rw [h1]
        rcases hm.1 with e | e
        · exact .inl e
        · exact .inr (by rw [e]; exact List.mem_cons_self)
      · exact .inr (List.mem_cons_of_mem _ h1)
    · rcases List.mem_cons.mp hy with e | e
      · subst e; omega
      · exact h3 y e

section
variable {S : Link} {k : Nat} {X : Cx} {W : WX} {L : Bool} {φ : List Addr} {H : Hp} {M : Mem}
theorem ints_of {vs : List Val} {xs : List V} (r : RDs S φ H vs xs) : ∀ {is : List Int}, intsOf vs = some is → xs = is.map V.int := by
  induction vs generalizing xs with
  | nil => intro is h; cases h; cases r; rfl
  | cons v vs ih =>
    intro is h
    cases r with
    | cons r t =>
      unfold intsOf at h
      split at h
      · rename_i e; cases e
      · rename_i e1
        cases e1
        split at h
        · rename_i e2
          cases h
          cases r
          rw [ih t e2]; rfl
        · cases h
      · cases h
theorem bls_of {vs : List Val} {xs : List V} (r : RDs S φ H vs xs) : ∀ {is : List Bool}, blsOf vs = some is → xs = is.map V.bl := by
  induction vs generalizing xs with
  | nil => intro is h; cases h; cases r; rfl
  | cons v vs ih =>
    intro is h
    cases r with
    | cons r t =>
      unfold blsOf at h
      split at h
      · rename_i e; cases e
      · rename_i e1
        cases e1
        split at h
        · rename_i e2
          cases h
          cases r
          rw [ih t e2]; rfl
        · cases h
      · cases h
theorem lsq_of {base : Heap} {pn : List (Addr × PySem.Obj)} {v : Val} {x : V} {vs : List Val} (Re : Rel S φ M H) (r : RS S base pn φ H v x) (h : lsq M v = some vs) : ∃ a xs, x = .ref a ∧ SqL S.K H a xs ∧ RDs S φ H vs xs := by
  unfold lsq at h
  split at h
  · cases h
    obtain ⟨a, xs, rfl, h1, h2, _⟩ := r.rl_
    exact ⟨a, xs, rfl, h1, h2⟩
  · obtain ⟨a, rfl, hn⟩ := r.ref_
    obtain ⟨xs, hx, rx⟩ := Re.lst hn (lsOf_lst h)
    exact ⟨a, xs, rfl, .of hx, rx⟩
  · cases h
theorem RSs.one {base : Heap} {pn : List (Addr × PySem.Obj)} {v : Val} {xs : List V} (r : RSs S base pn φ H [v] xs) : ∃ x, xs = [x] ∧ RS S base pn φ H v x := by
  cases r with
  | cons r t => cases t; exact ⟨_, rfl, r⟩
theorem RSs.two {base : Heap} {pn : List (Addr × PySem.Obj)} {v w : Val} {xs : List V} (r : RSs S base pn φ H [v, w] xs) : ∃ x y, xs = [x, y] ∧ RS S base pn φ H v x ∧ RS S base pn φ H w y := by
  cases r with
  | cons r t => cases t with
    | cons r2 t => cases t; exact ⟨_, _, rfl, r, r2⟩
def rBi (S : Link) (X : Cx) (b : Bi) : List V → Hp → VK → Prop := fun xs H Q => ∃ φ M vs, Rel S φ M H ∧ RSs S X.base X.pn φ H vs xs ∧ TV S (RX S X) φ H (bi b vs M) Q (fun _ _ _ => False)
theorem bi_len (G : Good S k X) : CallR X (.builtin "len") (rBi S X .len) := by
  intro pins s σ H xs us Q I ru ⟨φ, M, vs, Re, rs, h⟩
  unfold bi at h
  dsimp only at h
  split at h
  · obtain ⟨x, rfl, r⟩ := rs.one
    rw [r.str_] at ru
    split at h
    · rename_i hz
      exact L2.call_len pins s σ H _ us Q I ru ⟨_, _, rfl, ⟨line_le hz, rfl⟩, TV.ok Re (.d rfl (.int _)) h⟩
    · exact h.elim
  · obtain ⟨x, rfl, r⟩ := rs.one
    obtain ⟨a, ys, rfl, hx, q⟩ := r.tup_
    exact L2.call_len pins s σ H _ us Q I ru ⟨_, _, rfl, .inr ⟨ys, by rw [G.K]; exact hx, q.length⟩, TV.ok Re (.d rfl (.int _)) h⟩
  · obtain ⟨x, rfl, r⟩ := rs.one
    obtain ⟨a, ys, rfl, hx, q, _⟩ := r.rl_
    exact L2.call_len pins s σ H _ us Q I ru ⟨_, _, rfl, .inl ⟨ys, by rw [G.K]; exact hx, q.length⟩, TV.ok Re (.d rfl (.int _)) h⟩
  · obtain ⟨x, rfl, r⟩ := rs.one
    split at h
    · rename_i e
      obtain ⟨a, rfl, hn⟩ := r.ref_
      obtain ⟨ys, hx, q⟩ := Re.lst hn (lsOf_lst e)
      exact L2.call_len pins s σ H _ us Q I ru ⟨_, _, rfl, .inl ⟨ys, .of hx, q.length⟩, TV.ok Re (.d rfl (.int _)) h⟩
    · exact h.elim
  · exact h.elim
theorem bi_abs (G : Good S k X) : CallR X (.builtin "abs") (rBi S X .abs) := by
  intro pins s σ H xs us Q I ru ⟨φ, M, vs, Re, rs, h⟩
  unfold bi at h
  dsimp only at h
  split at h
  · obtain ⟨x, rfl, r⟩ := rs.one
    rw [r.int_] at ru
    exact L2.call_abs pins s σ H _ us Q I ru ⟨_, rfl, TV.ok Re (.d rfl (.int _)) h⟩
  · exact h.elim
theorem bi_max (G : Good S k X) : CallR X (.builtin "max") (rBi S X .max) := by
  intro pins s σ H xs us Q I ru ⟨φ, M, vs, Re, rs, h⟩
  unfold bi at h
  dsimp only at h
  split at h
  · obtain ⟨x, y, rfl, r1, r2⟩ := rs.two
    rw [r1.int_, r2.int_] at ru
    exact L2.call_max2 G.calm pins s σ H _ us Q I ru ⟨_, _, rfl, TV.ok Re (.d rfl (.int _)) h⟩
  · obtain ⟨x, rfl, r⟩ := rs.one
    split at h
    · rename_i e
      obtain ⟨a, ys, rfl, hx, q⟩ := lsq_of Re r e
      split at h
      · rename_i i is e2
        rw [ints_of q e2] at hx
        refine L2.cr_max G.calm pins s σ H _ us Q I ru ⟨a, i :: is, rfl, by rw [G.K]; exact hx, by simp, fun m hm ha => ?_⟩
        obtain ⟨f1, f2, f3⟩ := fold_max is i
        have e3 : m = is.foldl maxI i := by
          have h1 := ha i List.mem_cons_self
          have h2 : is.foldl maxI i ≤ m := by
            rcases f1 with f1 | f1
            · omega
            · exact ha _ (List.mem_cons_of_mem _ f1)
          have h3 : m ≤ is.foldl maxI i := by
            rcases List.mem_cons.mp hm with e | e
            · subst e; exact f2
            · exact f3 m e
          omega
        subst e3
        exact TV.ok Re (.d rfl (.int _)) h
      · exact h.elim
    · exact h.elim
  · exact h.elim
theorem bi_min (G : Good S k X) : CallR X (.builtin "min") (rBi S X .min) := by
  intro pins s σ H xs us Q I ru ⟨φ, M, vs, Re, rs, h⟩
  unfold bi at h
  dsimp only at h
  split at h
  · obtain ⟨x, y, rfl, r1, r2⟩ := rs.two
    rw [r1.int_, r2.int_] at ru
    exact L2.call_min2 G.calm pins s σ H _ us Q I ru ⟨_, _, rfl, TV.ok Re (.d rfl (.int _)) h⟩
  · obtain ⟨x, rfl, r⟩ := rs.one
    split at h
    · rename_i e
      obtain ⟨a, ys, rfl, hx, q⟩ := lsq_of Re r e
      split at h
      · rename_i i is e2
        rw [ints_of q e2] at hx
        refine L2.cr_min G.calm pins s σ H _ us Q I ru ⟨a, i :: is, rfl, by rw [G.K]; exact hx, by simp, fun m hm ha => ?_⟩
        obtain ⟨f1, f2, f3⟩ := fold_min is i
        have e3 : m = is.foldl minI i := by
          have h1 := ha i List.mem_cons_self
          have h2 : m ≤ is.foldl minI i := by
            rcases f1 with f1 | f1
            · omega
            · exact ha _ (List.mem_cons_of_mem _ f1)
          have h3 : is.foldl minI i ≤ m := by
            rcases List.mem_cons.mp hm with e | e
            · subst e; exact f2
            · exact f3 m e
          omega
        subst e3
        exact TV.ok Re (.d rfl (.int _)) h
      · exact h.elim
    · exact h.elim
  · exact h.elim
theorem bi_int (G : Good S k X) : CallR X (.type "int") (rBi S X .int) := by
  intro pins s σ H xs us Q I ru ⟨φ, M, vs, Re, rs, h⟩
  unfold bi at h
  dsimp only at h
  split at h
  · obtain ⟨x, rfl, r⟩ := rs.one
    rw [r.int_] at ru
    exact L2.call_int1 pins s σ H _ us Q I ru (.inl ⟨_, rfl, TV.ok Re (.d rfl (.int _)) h⟩)
  · obtain ⟨x, rfl, r⟩ := rs.one
    rw [r.bl_] at ru
    exact L2.call_int1 pins s σ H _ us Q I ru (.inr ⟨_, rfl, TV.ok Re (.d rfl (.int _)) h⟩)
  · obtain ⟨x, rfl, r⟩ := rs.one
    rw [r.str_] at ru
    split at h
    · rename_i hz
      split at h
      · rename_i n e
        exact L2.call_int_str pins s σ H _ us Q I ru ⟨_, n, rfl, e, of_decide_eq_true hz, TV.ok Re (.d rfl (.int _)) h⟩
      · exact h.elim
    · exact h.elim
  · exact h.elim
theorem bi_str (G : Good S k X) : CallR X (.type "str") (rBi S X .str) := by
  intro pins s σ H xs us Q I ru ⟨φ, M, vs, Re, rs, h⟩
  unfold bi at h
  dsimp only at h
  split at h
  · obtain ⟨x, rfl, r⟩ := rs.one
    rw [r.int_] at ru
    split at h
    · rename_i hz
      exact L2.call_str_int pins s σ H _ us Q I ru ⟨_, rfl, of_decide_eq_true hz, TV.ok Re (.d rfl (.str _)) h⟩
    · exact h.elim
  · exact h.elim
theorem bi_tuple (G : Good S k X) : CallR X (.type "tuple") (rBi S X .tuple) := by
  intro pins s σ H xs us Q I ru ⟨φ, M, vs, Re, rs, h⟩
  unfold bi at h
  dsimp only at h
  split at h
  · obtain ⟨x, rfl, r⟩ := rs.one
    obtain ⟨a, ys, rfl, hx, q⟩ := r.tup_
    exact L2.call_tuple_of pins s σ H _ us Q I ru ⟨a, ys, rfl, .inr ⟨by rw [G.K]; exact hx, TV.ok Re (.d rfl (.tup hx q)) h⟩⟩
  · obtain ⟨x, rfl, r⟩ := rs.one
    obtain ⟨a, ys, rfl, hx, q, _⟩ := r.rl_
    refine L2.call_tuple_of pins s σ H _ us Q I ru ⟨a, ys, rfl, .inl ⟨by rw [G.K]; exact hx, fun l hl => ?_⟩⟩
    have K : Keep φ φ H (upd H l (.tup ys)) := keep_new hl
    exact h φ _ (.ref l) (Re.new hl) K (.d rfl (.tup (.inl (.inl upd_same)) (q.mono K)))
  · obtain ⟨x, rfl, r⟩ := rs.one
    split at h
    · rename_i e
      obtain ⟨a, rfl, hn⟩ := r.ref_
      obtain ⟨ys, hx, q⟩ := Re.lst hn (lsOf_lst e)
      refine L2.call_tuple_of pins s σ H _ us Q I ru ⟨a, ys, rfl, .inl ⟨.of hx, fun l hl => ?_⟩⟩
      have K : Keep φ φ H (upd H l (.tup ys)) := keep_new hl
      exact h φ _ (.ref l) (Re.new hl) K (.d rfl (.tup (.inl (.inl upd_same)) (q.mono K)))
    · exact h.elim
  · exact h.elim
theorem new_lst {ys : List V} {vs : List Val} {Q : VK} {l : Addr} {W' : WQ} (Re : Rel S φ M H) (q : RDs S φ H vs ys) (h : TV S (RX S X) φ H (.ok (.ref M.length) (M ++ [.lst vs])) Q W') (hl : H l = none) : Q (.ref l) (upd H l (.lst ys)) := by
  have K : Keep φ (φ ++ [l]) H (upd H l (.lst ys)) := keep_add hl
  refine h _ _ (.ref l) (Re.add hl (.lst upd_same (q.mono K))) K (.d rfl (.ref ?_))
  rw [← Re.len, List.getElem?_append_right (Nat.le_refl _)]
  simp
theorem bi_list (G : Good S k X) : CallR X (.type "list") (rBi S X .list) := by
  intro pins s σ H xs us Q I ru ⟨φ, M, vs, Re, rs, h⟩
  unfold bi at h
  dsimp only at h
  split at h
  · obtain ⟨x, rfl, r⟩ := rs.one
    split at h
    · rename_i e
      unfold sqOf at e
      split at e
      · cases e
        obtain ⟨a, ys, rfl, hx, q⟩ := r.tup_
        exact L2.call_list_of pins s σ H _ us Q I ru ⟨a, ys, rfl, .inr (by rw [G.K]; exact hx), fun l hl => new_lst Re q h hl⟩
      · cases e
        obtain ⟨a, ys, rfl, hx, q, _⟩ := r.rl_
        exact L2.call_list_of pins s σ H _ us Q I ru ⟨a, ys, rfl, .inl (by rw [G.K]; exact hx), fun l hl => new_lst Re q h hl⟩
      · obtain ⟨a, rfl, hn⟩ := r.ref_
        obtain ⟨ys, hx, q⟩ := Re.lst hn (lsOf_lst e)
        exact L2.call_list_of pins s σ H _ us Q I ru ⟨a, ys, rfl, .inl (.of hx), fun l hl => new_lst Re q h hl⟩
      · cases e
    · exact h.elim
  · exact h.elim
theorem bi_sum (G : Good S k X) : CallR X (.builtin "sum") (rBi S X .sum) := by
  intro pins s σ H xs us Q I ru ⟨φ, M, vs, Re, rs, h⟩
  unfold bi at h
  dsimp only at h
  split at h
  · obtain ⟨x, rfl, r⟩ := rs.one
    split at h
    · rename_i e
      obtain ⟨a, ys, rfl, hx, q⟩ := lsq_of Re r e
      split at h
      · rename_i is e2
        rw [ints_of q e2] at hx
        exact L2.cr_sum G.calm pins s σ H _ us Q I ru ⟨a, is, rfl, by rw [G.K]; exact hx, TV.ok Re (.d rfl (.int _)) h⟩
      · exact h.elim
    · exact h.elim
  · exact h.elim
theorem bi_any (G : Good S k X) : CallR X (.builtin "any") (rBi S X .any) := by
  intro pins s σ H xs us Q I ru ⟨φ, M, vs, Re, rs, h⟩
  unfold bi at h
  dsimp only at h
  split at h
  · obtain ⟨x, rfl, r⟩ := rs.one
    split at h
    · rename_i e
      obtain ⟨a, ys, rfl, hx, q⟩ := lsq_of Re r e
      split at h
      · rename_i is e2
        rw [bls_of q e2] at hx
        exact L2.cr_any G.calm pins s σ H _ us Q I ru ⟨a, is, rfl, by rw [G.K]; exact hx, TV.ok Re (.d rfl (.bl _)) h⟩
      · exact h.elim
    · exact h.elim
  · exact h.elim
theorem bi_all (G : Good S k X) : CallR X (.builtin "all") (rBi S X .all) := by
  intro pins s σ H xs us Q I ru ⟨φ, M, vs, Re, rs, h⟩
  unfold bi at h
  dsimp only at h
  split at h
  · obtain ⟨x, rfl, r⟩ := rs.one
    split at h
    · rename_i e
      obtain ⟨a, ys, rfl, hx, q⟩ := lsq_of Re r e
      split at h
      · rename_i is e2
        rw [bls_of q e2] at hx
        exact L2.cr_all G.calm pins s σ H _ us Q I ru ⟨a, is, rfl, by rw [G.K]; exact hx, TV.ok Re (.d rfl (.bl _)) h⟩
      · exact h.elim
    · exact h.elim
  · exact h.elim
theorem pes_plain {pos : Pos} {As : List Ex} {as : List Expr} (h : PEs S k X W As as) : (backTo pos (starEach as X.env)).any (·.1) = false := by
  induction h with
  | nil => rfl
  | cons _ _ hs _ ih => rw [hs]; exact ih
theorem pes_len {As : List Ex} {as : List Expr} (h : PEs S k X W As as) : As.length = as.length := by
  induction h with
  | nil => rfl
  | cons _ _ _ _ ih => exact congrArg (· + 1) ih
theorem bi_tE {b : Bi} {As : List Ex} {σV : L2.St} {H : Hp} {Q : VK} (h : tEv S k X W (.bi b As) σV H Q) : L2.tCB (rBi S X b) (tAv S k X W As) σV H Q :=
  tE_mono (tA_one (g := fun vs M => bi b vs M) (tE_cong h fun σ M => by rw [ev])) fun xs H1 ⟨φ, M, vs, Re, r, h1⟩ => ⟨φ, M, vs, Re, r, TV.noexc bi_ne h1⟩
theorem bi_nil {b : Bi} {M : Mem} : bi b [] M = .err := by cases b <;> rfl
theorem e_bi (G : Good S k X) {b : Bi} {As : List Ex} {as : List Expr} {f : Str} {p pos : Pos} (hf : bltOk S.T X.env.scope f (biName b) = true) (hb : biOk b = true) (h : PEs S k X W As as) : PE X (.Call (.Name f p) as [] pos) (tEv S k X W (.bi b As)) := by
  obtain ⟨rfl, hg, hm⟩ := blt G hf
  cases h with
  | nil =>
    exact PE_imp pe_never fun σV H Q ⟨φ, σ, M, Re, sr, h⟩ => by
      have h : TV S (RX S X) φ H (ev S.Pr.env (run S.Pr k) (.bi b []) σ M) Q _ := h
      rw [ev, evs] at h
      have h : TV S (RX S X) φ H (bi b [] M) Q _ := h
      rw [bi_nil] at h
      exact h
  | cons ha ta hs hr =>
    have hp := pes_plain (pos := pos) hr
    have pa := pa_ex G (.cons ha ta hs hr)
    cases b with
    | len => exact PE_imp (L2.pe_callB (bi_len G) hg hm (by first | rfl | decide +kernel | kernel_rfl) pa (by decide) (by decide) hs hp) fun _ _ _ h => bi_tE h
    | abs => exact PE_imp (L2.pe_callB (bi_abs G) hg hm (by first | rfl | decide +kernel | kernel_rfl) pa (by decide) (by decide) hs hp) fun _ _ _ h => bi_tE h
    | min => exact PE_imp (L2.pe_callB (bi_min G) hg hm (by first | rfl | decide +kernel | kernel_rfl) pa (by decide) (by decide) hs hp) fun _ _ _ h => bi_tE h
    | max => exact PE_imp (L2.pe_callB (bi_max G) hg hm (by first | rfl | decide +kernel | kernel_rfl) pa (by decide) (by decide) hs hp) fun _ _ _ h => bi_tE h
    | int => exact PE_imp (L2.pe_callTy (bi_int G) hg hm (by first | rfl | decide +kernel | kernel_rfl) pa (by decide) (by decide) hs hp) fun _ _ _ h => bi_tE h
    | str => exact PE_imp (L2.pe_callTy (bi_str G) hg hm (by first | rfl | decide +kernel | kernel_rfl) pa (by decide) (by decide) hs hp) fun _ _ _ h => bi_tE h
    | tuple => exact PE_imp (L2.pe_callTy (bi_tuple G) hg hm (by first | rfl | decide +kernel | kernel_rfl) pa (by decide) (by decide) hs hp) fun _ _ _ h => bi_tE h
    | list => exact PE_imp (L2.pe_callTy (bi_list G) hg hm (by first | rfl | decide +kernel | kernel_rfl) pa (by decide) (by decide) hs hp) fun _ _ _ h => bi_tE h
    | sum => exact PE_imp (L2.pe_callB (bi_sum G) hg hm (by first | rfl | decide +kernel | kernel_rfl) pa (by decide) (by decide) hs hp) fun _ _ _ h => bi_tE h
    | any => exact PE_imp (L2.pe_callB (bi_any G) hg hm (by first | rfl | decide +kernel | kernel_rfl) pa (by decide) (by decide) hs hp) fun _ _ _ h => bi_tE h
    | all => exact PE_imp (L2.pe_callB (bi_all G) hg hm (by first | rfl | decide +kernel | kernel_rfl) pa (by decide) (by decide) hs hp) fun _ _ _ h => bi_tE h
    | sorted => exact PE_imp (L2.pe_callB (id := "sorted") (r := fun _ _ _ => False) (fun _ _ _ _ _ _ _ _ _ h => h.elim) hg hm (by first | rfl | decide +kernel | kernel_rfl) pa (by decide) (by decide) hs hp) fun _ _ _ h => tE_mono (bi_tE h) fun _ _ ⟨_, _, _, _, _, h⟩ => h
    | gcd => cases hb
end
end Mi
end
section
set_option Elab.async false
set_option linter.all false
set_option maxRecDepth 100000
/-! S11: methods of lists. -/
namespace Mi
open PySem PySem.Spec PyProof.Rows
open L2 (V Hp HO SqL SqT RelV upd upd_same upd_ne ne_of ne_of_none Key Cx Inv PE PT PW PA PC TE TT TA VK Vis Takes WX XK Room OpR Dp DpAll thn TyX TyOf ClsV Vals EP TP PO CallR)
section
variable {S : Link} {k : Nat} {X : Cx} {W : WX} {L : Bool} {φ : List Addr} {H : Hp} {M : Mem}
theorem few_of {pos : Pos} {as : List Expr} (hp : (backTo pos (starEach as X.env)).any (·.1) = false) (hl : as.length < 20) :
    ((backTo pos (starEach as X.env)).all (fun x => !x.1) && (backToKw pos (keywordEach [] X.env)).all (fun x => x.1.isSome)
      && decide (as.length + ([] : List Keyword).length + (if ([] : List Keyword).isEmpty then 0 else 1) < 30)) = true := by
  have h1 : (backTo pos (starEach as X.env)).all (fun x => !x.1) = true := by
    rw [List.all_eq_true]
    intro x hx
    have := List.any_eq_false.mp hp x hx
    simpa using this
  rw [h1]
  simp [keywordEach, backToKw]
  omega
/-- the list that grows -/
theorem Rel.grow {n : Nat} {a : Addr} {vs : List Val} {xs : List V} {v : Val} {x : V} (Re : Rel S φ M H) (hn : φ[n]? = some a) (hx : H a = some (.lst xs)) (q : RDs S φ H vs xs) (r : RD S φ H v x) :
    Keep φ φ H (upd H a (.lst (xs ++ [x]))) ∧ Rel S φ (M.set n (.lst (vs ++ [v]))) (upd H a (.lst (xs ++ [x]))) := by
  have K : Keep φ φ H (upd H a (.lst (xs ++ [x]))) := keep_set (List.mem_of_getElem? hn) hx (fun z => z)
  exact Re.set hn (.lst upd_same ((q.append (.cons r .nil)).mono K))
theorem recv_append {v : Val} {M : Mem} (h : meRecv .append v M = true) : ∃ n vs, v = .ref n ∧ M[n]? = some (.lst vs) := by
  unfold meRecv at h
  dsimp only at h
  split at h
  · split at h
    · rename_i n _ vs e
      exact ⟨n, vs, rfl, e⟩
    · cases h
  · cases h
theorem me_start {m : Me} {A : Ex} {As : List Ex} {σV : L2.St} {H : Hp} {Q : VK} (h : tEv S k X W (.me m A As) σV H Q) :
    tEv S k X W A σV H fun x H1 => ∃ φ σ M v, Rel S φ M H1 ∧ SR S X φ H1 σ σV ∧ RX S X φ H1 v x ∧ meRecv m v M = true ∧
      tAv S k X W As σV H1 fun xs H2 => ∃ φ2 M2 vs, Rel S φ2 M2 H2 ∧ RX S X φ2 H2 v x ∧ RSs S X.base X.pn φ2 H2 vs xs ∧ TV S (RX S X) φ2 H2 (me m v vs M2) Q fun c d H' => W c d σV H' := by
  refine tE_mono (tE_bind (RV := RX S X) (g := fun σ x M => match meRecv m x M with | true => (evs S.Pr.env (run S.Pr k) As σ M).bind fun vs M => me m x vs M | false => .err) (tE_cong h fun σ M => by rw [ev] <;> rfl)) fun x H1 ⟨φ, σ, v, M, Re, sr, r, h1⟩ => ?_
  cases e : meRecv m v M with
  | false => rw [e] at h1; exact h1.elim
  | true =>
    rw [e] at h1
    refine ⟨φ, σ, M, v, Re, sr, r, e, φ, σ, M, Re, sr, ?_⟩
    exact (TV.bind (RV := fun φ H vs xs => RSs S X.base X.pn φ H vs xs) h1).mono fun xs H2 ⟨φ2, vs, M2, R2, K2, r2, h2⟩ => ⟨φ2, M2, vs, R2, RS.mono K2 r, r2, h2⟩
theorem e_append (G : Good S k X) {A : Ex} {As : List Ex} {a : Expr} {as : List Expr} {ap pos : Pos} (ha : PE X a (tEv S k X W A)) (hb : noSup a = true) (hl : (ap.endLine == pos.line) = true) (hz : as.length < 20) (h : PEs S k X W As as) :
    PE X (.Call (.Attribute a "append" ap) as [] pos) (tEv S k X W (.me .append A As)) := by
  cases h with
  | nil =>
    refine PE_imp (L2.pe_bm0 (id := "list.append") (r := fun _ _ _ _ => False) PySem.F.plainAttrs_list PySem.F.slot_list_append PySem.F.type_list_append (fun _ _ _ _ _ _ _ _ _ _ _ _ h => h.elim) ha (base_of hb) hl) fun σV H Q h => ?_
    refine tE_mono (me_start h) fun x H1 ⟨φ, σ, M, v, Re, sr, r, hr, h1⟩ => ?_
    obtain ⟨φ', σ', M', Re', sr', h1⟩ := h1
    have h1 : TV S _ φ' H1 (evs S.Pr.env (run S.Pr k) [] σ' M') _ _ := h1
    rw [evs] at h1
    obtain ⟨φ2, M2, vs, _, _, r2, h2⟩ := TV.ok (x := []) Re' .nil h1
    cases r2
    unfold me at h2
    dsimp only at h2
    split at h2
    · contradiction
    · exact h2.elim
  | cons h1 h2 h3 h4 =>
    have hp := pes_plain (pos := pos) h4
    have hpa := pes_plain (pos := pos) (PEs.cons h1 h2 h3 h4)
    refine PE_imp (L2.pe_bm PySem.F.plainAttrs_list PySem.F.slot_list_append PySem.F.type_list_append L2.mt_append ha (pa_ex G (.cons h1 h2 h3 h4)) (base_of hb) (few_of hpa hz) hl h3 hp) fun σV H Q h => ?_
    refine tE_mono (me_start h) fun x H1 ⟨φ, σ, M, v, Re, sr, r, hr, h1⟩ => ?_
    obtain ⟨n, vs, rfl, e⟩ := recv_append hr
    obtain ⟨a, rfl, hn⟩ := r.ref_
    obtain ⟨xs, hx, _⟩ := Re.lst hn e
    refine ⟨.inl ⟨rfl, xs, .of hx⟩, tE_mono h1 fun ys H2 ⟨φ2, M2, ws, R2, r2, rs, h2⟩ => ?_⟩
    obtain ⟨a', e', hn2⟩ := r2.ref_
    cases e'
    unfold me at h2
    dsimp only at h2
    split at h2
    · rename_i e1
      cases e1
      obtain ⟨y, rfl, ry⟩ := rs.one
      split at h2
      · rename_i us e2
        obtain ⟨zs, hz2, q⟩ := R2.lst hn2 e2
        split at h2
        · rename_i hd
          obtain ⟨d1, d2⟩ := Bool.and_eq_true_iff.mp hd
          obtain ⟨K, R3⟩ := R2.grow hn2 hz2 q (ry.data d1)
          refine ⟨a, zs, y, rfl, rfl, hz2, ?_, h2 φ2 _ .non R3 K (.d rfl .non)⟩
          have := of_decide_eq_true d2
          rw [← q.length, sizeLine_eq]
          unfold lineN at this
          omega
        · exact h2.elim
      · exact h2.elim
    · exact h2.elim
end
end Mi
end
section
set_option Elab.async false
set_option linter.all false
set_option maxRecDepth 100000
/-! B0: how a def's parameters are bound: positional values and defaults; all by keywords in order. -/
namespace Mi
open PySem PySem.Spec PyProof.Rows
theorem lookup_mem {α : Type} {k : Str} : ∀ {l : List (Str × α)}, k ∈ l.map (·.1) → (l.lookup k).isSome = true
  | [], h => by cases h
  | (a, b) :: r, h => by
    rw [List.lookup_cons]
    by_cases e : k = a
    · subst e; simp
    · have e' : (k == a) = false := beq_eq_false_iff_ne.mpr e
      rw [e']
      rcases List.mem_cons.mp h with h | h
      · exact (e h).elim
      · exact lookup_mem h
theorem lookup_not {α : Type} {k : Str} : ∀ {l : List (Str × α)}, k ∉ l.map (·.1) → l.lookup k = none
  | [], h => rfl
  | (a, b) :: r, h => by
    rw [List.lookup_cons]
    have e' : (k == a) = false := beq_eq_false_iff_ne.mpr fun e => h (by rw [e]; exact List.mem_cons_self)
    rw [e']
    exact lookup_not fun z => h (List.mem_cons_of_mem _ z)
def addS {α : Type} (S : List (Str × α)) (q : Str × α) : List (Str × α) := if (S.lookup q.1).isNone then S ++ [q] else S
theorem fold_skip {α : Type} : ∀ (l S : List (Str × α)), (∀ q ∈ l, q.1 ∈ S.map (·.1)) → l.foldl addS S = S
  | [], S, _ => rfl
  | q :: l, S, h => by
    have e : addS S q = S := by
      unfold addS
      have := lookup_mem (h q List.mem_cons_self)
      rw [if_neg]
      intro z
      rw [Option.isNone_iff_eq_none] at z
      rw [z] at this
      cases this
    rw [List.foldl_cons, e]
    exact fold_skip l S fun q hq => h q (List.mem_cons_of_mem _ hq)
theorem fold_add {α : Type} : ∀ (l S : List (Str × α)), (∀ q ∈ l, q.1 ∉ S.map (·.1)) → (l.map (·.1)).Nodup → l.foldl addS S = S ++ l
  | [], S, _, _ => (List.append_nil _).symm
  | q :: l, S, h, n => by
    have e : addS S q = S ++ [q] := by
      unfold addS
      rw [if_pos]
      rw [lookup_not (h q List.mem_cons_self)]; rfl
    rw [List.foldl_cons, e, fold_add l (S ++ [q]) (fun r hr => ?_) (List.nodup_cons.mp n).2, List.append_assoc]
    · rfl
    · intro z
      rw [List.map_append] at z
      rcases List.mem_append.mp z with z | z
      · exact h r (List.mem_cons_of_mem _ hr) z
      · simp at z
        have := (List.nodup_cons.mp n).1
        exact this (by show q.1 ∈ _; rw [← z]; exact List.mem_map_of_mem (f := (·.1)) hr)
theorem filt_zip {α : Type} (S : List (Str × α)) : ∀ (N : List Str) (vs : List α), N.length = vs.length → (∀ q ∈ N.zip vs, S.lookup q.1 = some q.2) → N.filterMap (fun n => (S.lookup n).map (n, ·)) = N.zip vs
  | [], [], _, _ => rfl
  | n :: N, v :: vs, hl, h => by
    rw [List.filterMap_cons, h (n, v) List.mem_cons_self]
    show (n, v) :: _ = (n, v) :: N.zip vs
    rw [filt_zip S N vs (by simpa using hl) fun q hq => h q (List.mem_cons_of_mem _ hq)]
  | [], _ :: _, hl, _ => by cases hl
  | _ :: _, [], hl, _ => by cases hl
theorem lookup_zip {α : Type} : ∀ {N : List Str} {vs : List α}, N.Nodup → ∀ q ∈ N.zip vs, (N.zip vs).lookup q.1 = some q.2
  | [], _, _, q, h => by cases h
  | _ :: _, [], _, q, h => by cases h
  | n :: N, v :: vs, nd, q, h => by
    rw [List.zip_cons_cons, List.lookup_cons]
    rcases List.mem_cons.mp h with e | h
    · subst e; simp
    · have hm : q.1 ∈ N := (List.of_mem_zip (show (q.1, q.2) ∈ N.zip vs from h)).1
      have e' : (q.1 == n) = false := beq_eq_false_iff_ne.mpr fun e => (List.nodup_cons.mp nd).1 (by rw [← e]; exact hm)
      rw [e']
      exact lookup_zip (List.nodup_cons.mp nd).2 q h
theorem keys_zip {α : Type} : ∀ {N : List Str} {vs : List α}, (N.zip vs).map (·.1) = N.take vs.length
  | [], _ => by simp
  | _ :: _, [] => by simp
  | n :: N, v :: vs => by simp [keys_zip (N := N) (vs := vs)]
/-- plain parameters only -/
def plainP (p : Arguments) : Bool := p.posonlyargs.isEmpty && (p.vararg.isNone && (p.kwonlyargs.isEmpty && (p.kwarg.isNone && decide (p.args.map (·.arg)).Nodup)))
theorem forIn_addS : ∀ (l S : List (Str × Value)), (forIn l S fun x s => if (List.lookup x.fst s).isNone = true then (pure (ForInStep.yield (s ++ [(x.fst, x.snd)])) : Sem _) else pure (ForInStep.yield s)) = pure (l.foldl addS S)
  | [], S => by simp
  | q :: l, S => by
    rw [List.forIn_cons, List.foldl_cons]
    unfold addS
    by_cases h : (List.lookup q.1 S).isNone = true
    · rw [if_pos h, if_pos h]
      simp only [pure_bind]
      exact forIn_addS l _
    · rw [if_neg h, if_neg h]
      simp only [pure_bind]
      exact forIn_addS l _
theorem zip_drop {α β : Type} : ∀ (n : Nat) (l : List α) (m : List β), (l.zip m).drop n = (l.drop n).zip (m.drop n)
  | 0, _, _ => rfl
  | n + 1, [], _ => by simp
  | n + 1, _ :: _, [] => by simp
  | n + 1, _ :: l, _ :: m => by
    show (l.zip m).drop n = (l.drop n).zip (m.drop n)
    exact zip_drop n l m
theorem zip_take {α β : Type} : ∀ (n : Nat) (l : List α) (m : List β), (l.zip m).take n = (l.take n).zip (m.take n)
  | 0, _, _ => by simp
  | n + 1, [], _ => by simp
  | n + 1, _ :: _, [] => by simp
  | n + 1, a :: l, b :: m => by
    show (a, b) :: (l.zip m).take n = (a, b) :: (l.take n).zip (m.take n)
    rw [zip_take n l m]
theorem zip_short {α β : Type} : ∀ (l : List α) (m : List β), (l.take m.length).zip m = l.zip m
  | [], _ => by simp
  | _ :: _, [] => by simp
  | a :: l, b :: m => by
    show (a, b) :: (l.take m.length).zip m = (a, b) :: l.zip m
    rw [zip_short l m]
theorem bind_pos {fd : FuncData} {us ds : List Value} (hp : plainP fd.params = true) (hl : us.length ≤ fd.params.args.length) (hd : ds.length ≤ fd.params.args.length) (hm : fd.params.args.length ≤ us.length + ds.length) :
    ∃ k, bindArgs fd ⟨us, []⟩ = seqItems? fd.defaults >>= k ∧ ∀ o, (o.getD #[]).toList = ds → k o = pure ((fd.params.args.map (·.arg)).zip (us ++ ds.drop (us.length - (fd.params.args.length - ds.length)))) := by
  obtain ⟨h1, hp⟩ := Bool.and_eq_true_iff.mp hp
  obtain ⟨h2, hp⟩ := Bool.and_eq_true_iff.mp hp
  obtain ⟨h3, hp⟩ := Bool.and_eq_true_iff.mp hp
  obtain ⟨h4, h5⟩ := Bool.and_eq_true_iff.mp hp
  have h5 := of_decide_eq_true h5
  simp only [List.isEmpty_iff, Option.isNone_iff_eq_none] at h1 h2 h3 h4
  unfold bindArgs
  simp only [h1, h2, h3, h4, List.map_nil, List.nil_append, List.append_nil]
  refine ⟨_, rfl, fun o ho => ?_⟩
  simp only [ho]
  have hN : fd.params.args.length = (fd.params.args.map (·.arg)).length := (List.length_map _).symm
  rw [hN] at hl hd hm ⊢
  generalize hNN : fd.params.args.map (·.arg) = N at *
  have e1 : decide (us.length > N.length) = false := decide_eq_false (by omega)
  have e2 : List.drop (ds.length - N.length) ds = ds := by rw [show ds.length - N.length = 0 by omega]; rfl
  have e3 : List.filter (fun n => (List.lookup n (N.zip us)).isNone) (List.take (N.length - ds.length) N) = [] := by
    rw [List.filter_eq_nil_iff]
    intro n hn z
    have hk : n ∈ (N.zip us).map (·.1) := by
      rw [keys_zip]
      exact List.mem_of_mem_take (show n ∈ List.take (N.length - ds.length) (List.take us.length N) by rw [List.take_take, Nat.min_eq_left (by omega)]; exact hn)
    have := lookup_mem hk
    rw [Option.isNone_iff_eq_none] at z
    rw [z] at this
    cases this
  simp only [e1, e2, e3]
  rw [forIn_addS]
  simp only [List.isEmpty_nil, Bool.not_true, Bool.false_and, Bool.false_eq_true, if_false, pure_bind, List.forIn_nil]
  have e4 : (List.drop (N.length - ds.length) N).zip ds = ((List.drop (N.length - ds.length) N).zip ds).take (us.length - (N.length - ds.length)) ++ (List.drop us.length N).zip (ds.drop (us.length - (N.length - ds.length))) := by
    conv => lhs; rw [← List.take_append_drop (us.length - (N.length - ds.length)) ((List.drop (N.length - ds.length) N).zip ds)]
    congr 1
    rw [zip_drop, List.drop_drop]
    congr 2
    omega
  have hA : List.foldl addS (N.zip us) (((List.drop (N.length - ds.length) N).zip ds).take (us.length - (N.length - ds.length))) = N.zip us := by
    refine fold_skip _ _ fun q hq => ?_
    rw [keys_zip]
    rw [zip_take] at hq
    have hq1 := (List.of_mem_zip (show (q.1, q.2) ∈ _ from hq)).1
    rw [List.take_drop] at hq1
    have := List.mem_of_mem_drop hq1
    rw [show N.length - ds.length + (us.length - (N.length - ds.length)) = us.length by omega] at this
    exact this
  have e5 : List.foldl addS (N.zip us) ((List.drop (N.length - ds.length) N).zip ds) = N.zip (us ++ ds.drop (us.length - (N.length - ds.length))) := by
    rw [e4, List.foldl_append, hA, fold_add]
    · have : N.zip (us ++ ds.drop (us.length - (N.length - ds.length))) = (List.take us.length N ++ List.drop us.length N).zip (us ++ ds.drop (us.length - (N.length - ds.length))) := by rw [List.take_append_drop]
      rw [this, List.zip_append (by rw [List.length_take]; omega), zip_short]
    · intro q hq z
      have hq1 : q.1 ∈ List.drop us.length N := (List.of_mem_zip (show (q.1, q.2) ∈ _ from hq)).1
      rw [keys_zip] at z
      have hd' := List.nodup_append.mp (show (List.take us.length N ++ List.drop us.length N).Nodup by rw [List.take_append_drop]; exact h5)
      exact hd'.2.2 _ z _ hq1 rfl
    · rw [keys_zip]
      exact ((h5.sublist (List.drop_sublist _ _)).sublist (List.take_sublist _ _))
  rw [e5]
  congr 1
  exact filt_zip _ _ _ (by rw [List.length_append, List.length_drop]; omega) (lookup_zip h5)
theorem forIn_kw {β : Type} {b : β} {f : Str × Value → (List (Str × Value) × β) → Sem (ForInStep (List (Str × Value) × β))} : ∀ (l P : List (Str × Value)), ((P ++ l).map (·.1)).Nodup → (∀ q ∈ l, ∀ P' : List (Str × Value), q.1 ∉ P'.map (·.1) → f q (P', b) = pure (ForInStep.yield (P' ++ [q], b))) →
    forIn l (P, b) f = pure (P ++ l, b)
  | [], P, _, _ => by simp
  | q :: l, P, n, h => by
    rw [List.forIn_cons, h q List.mem_cons_self P fun z => ?_]
    · simp only [pure_bind]
      rw [forIn_kw l (P ++ [q]) (by rw [List.append_assoc]; exact n) fun r hr => h r (List.mem_cons_of_mem _ hr), List.append_assoc]
      rfl
    · rw [List.map_append, List.map_cons] at n
      exact (List.nodup_append.mp n).2.2 _ z _ List.mem_cons_self rfl
theorem bind_kw {fd : FuncData} {ws : List Value} (hp : plainP fd.params = true) (hl : ws.length = fd.params.args.length) :
    ∃ k, bindArgs fd ⟨[], (fd.params.args.map (·.arg)).zip ws⟩ = seqItems? fd.defaults >>= k ∧ ∀ o, (o.getD #[]).toList.length ≤ fd.params.args.length → k o = pure ((fd.params.args.map (·.arg)).zip ws) := by
  obtain ⟨h1, hp⟩ := Bool.and_eq_true_iff.mp hp
  obtain ⟨h2, hp⟩ := Bool.and_eq_true_iff.mp hp
  obtain ⟨h3, hp⟩ := Bool.and_eq_true_iff.mp hp
  obtain ⟨h4, h5⟩ := Bool.and_eq_true_iff.mp hp
  have h5 := of_decide_eq_true h5
  simp only [List.isEmpty_iff, Option.isNone_iff_eq_none] at h1 h2 h3 h4
  unfold bindArgs
  simp only [h1, h2, h3, h4, List.map_nil, List.nil_append, List.append_nil]
  have hN : fd.params.args.length = (fd.params.args.map (·.arg)).length := (List.length_map _).symm
  rw [hN] at hl
  rw [hN]
  generalize hNN : fd.params.args.map (·.arg) = N at *
  rw [forIn_kw (b := []) (N.zip ws) (N.zip []) (by simp [keys_zip]; rw [List.take_of_length_le (by omega)]; exact h5) (fun q hq P' hP => ?_)]
  · simp only [pure_bind, List.zip_nil_right, List.nil_append]
    refine ⟨_, rfl, fun o ho => ?_⟩
    generalize (o.getD #[]).toList = ds at *
    have hin : ∀ n ∈ N, n ∈ (N.zip ws).map (·.1) := fun n hn => by rw [keys_zip, List.take_of_length_le (by omega)]; exact hn
    have e1 : decide (([] : List Value).length > N.length) = false := decide_eq_false (by simp)
    have e3 : ∀ j, List.filter (fun n => (List.lookup n (N.zip ws)).isNone) (List.take j N) = [] := fun j => by
      rw [List.filter_eq_nil_iff]
      intro n hn z
      have := lookup_mem (hin n (List.mem_of_mem_take hn))
      rw [Option.isNone_iff_eq_none] at z
      rw [z] at this
      cases this
    simp only [e1, e3]
    rw [forIn_addS, fold_skip _ _ fun q hq => hin _ (List.mem_of_mem_drop (List.of_mem_zip (show (q.1, q.2) ∈ _ from hq)).1)]
    simp only [List.isEmpty_nil, Bool.not_true, Bool.false_and, Bool.false_eq_true, if_false, pure_bind, List.forIn_nil]
    congr 1
    exact filt_zip _ _ _ (by omega) (lookup_zip h5)
  · have hm : q.1 ∈ N := (List.of_mem_zip (show (q.1, q.2) ∈ _ from hq)).1
    have hc : (N.contains q.1 || ([] : List Str).contains q.1) = true := by simp [hm]
    simp only [hc, lookup_not hP]
    rfl
end Mi
end
section
set_option Elab.async false
set_option linter.all false
set_option maxRecDepth 100000
/-! S12: lambdas are made. -/
namespace Mi
open PySem PySem.Spec PyProof.Rows
open L2 (V Hp HO SqL SqT RelV upd upd_same upd_ne ne_of ne_of_none Key Cx Inv PE PT PW PA PC TE TT TA VK Vis Takes WX XK Room OpR Dp DpAll thn TyX TyOf ClsV Vals EP TP PO CallR)

open L2 (cloFrom)
open LamX (ExtN Tabs TabB CodeO)
theorem funO_ok {P : PySem.Program} {w : World} {H : Hp} {h : Heap} {f : Addr} {ob : PySem.Obj} (e : h.get? f = some ob) : L2.ObjOk P w H h f (FunO f ob) :=
  ⟨e, ⟨ob, e⟩, fun _ _ z k => k _ z⟩
theorem funO_at {P : PySem.Program} {w : World} {H : Hp} {h : Heap} {f : Addr} {ob : PySem.Obj} (hok : L2.HOk P w H h) (e : H f = some (FunO f ob)) : h.get? f = some ob := by
  have x : L2.ObjOk P w H h f (.ext fun h => h.get? f = some ob) := hok f _ e
  exact x.1
theorem funO_tbl {f : Addr} {ob : PySem.Obj} (ps : Array Value) : FunO f ob ≠ .tbl ps := fun z => by
  unfold FunO at z
  cases z
/-- the body of this context may make lambdas -/
def LamOk (S : Link) (X : Cx) : Prop := (∃ c P, X.env.code = .ref c ∧ (c, P, X.env.qual) ∈ S.cods) ∧ ∀ y c, X.env.cells.lookup y = some c → c ∉ X.fs
/-- tables by their names -/
structure TabF (S : Link) : Prop where
  mem : ∀ c P q, (c, P, q) ∈ S.cods → (P, q ++ "<lambda>") ∈ S.tabs ∧ ∀ p ∈ S.tabs, p.1 = P → p.2 = q ++ "<lambda>"
structure LamB (N : List Str) (sc scope : Scope) (ps : List Nat) (a : Arguments) : Prop where
  kind : scope.kind = .function
  co : scope.isCoroutine = false
  gen : scope.isGenerator = false
  pos : a.posonlyargs = []
  va : a.vararg = none
  ko : a.kwonlyargs = []
  kw : a.kwarg = none
  df : a.defaults = []
  kd : a.kw_defaults = []
  pn : ps.map (fun i => N[i]?) = a.args.map fun z => some z.arg
  nd : (a.args.map (·.arg)).Nodup
  lk : ∀ y ∈ scope.names, scope.names.lookup y.1 = some y.2
  fr : ∀ y ∈ scope.names, y.2 = .free → sc.names.lookup y.1 = some .cell ∨ sc.names.lookup y.1 = some .free
  lo : ∀ y ∈ scope.names, y.2 = .local → y.1 ∈ a.args.map (·.arg)
  ce : ∀ y ∈ scope.names, y.2 ≠ .cell
  pl : ∀ z ∈ a.args, scope.names.lookup z.arg = some .local
theorem lamB_of {N : List Str} {sc scope : Scope} {ps : List Nat} {a : Arguments} (h : lamB N sc scope ps a = true) : LamB N sc scope ps a := by
  unfold lamB at h
  simp only [Bool.and_eq_true, decide_eq_true_eq, Bool.not_eq_true', List.all_eq_true, List.length_eq_zero_iff, Option.isNone_iff_eq_none] at h
  obtain ⟨h1, h2, h3, h4, h5, h6, h7, h8, h9, h10, h11, h13, h12⟩ := h
  refine ⟨h1, h2, h3, h4, h5, h6, h7, h8, h9, h10, h11, fun y hy => (h12 y hy).1, fun y hy e => ?_, fun y hy e => ?_, fun y hy e => ?_, h13⟩
  · have := (h12 y hy).2
    rw [e] at this
    simp only [Bool.or_eq_true, Bool.and_eq_true, decide_eq_true_eq] at this
    rcases this with ⟨a1, a2⟩ | a1
    · unfold locK at a1
      unfold isL at a2
      split at a1
      · rename_i q; rw [q] at a2; cases a2
      · rename_i q; exact .inl q
      · cases a1
    · exact .inr a1
  · have := (h12 y hy).2
    rw [e] at this
    simpa using this
  · have := (h12 y hy).2
    rw [e] at this
    cases this
section
variable {S : Link} {k : Nat} {X : Cx} {W : WX} {pins : List (Addr × PySem.Obj)} {σV : L2.St} {H : Hp} {s : Shared} {φ : List Addr} {M : Mem}
theorem lam_new (G : Good S k X) (TF : TabF S) (LO : LamOk S X) {scope : Scope} {ps : List Nat} {params : Arguments} {body : Expr} {pos : Pos} {E : Value → Shared → Prop} {Q : Value → Shared → Prop} (I : Inv X pins σV H s) (Re : Rel S φ M H) (hl : LamB X.N X.env.scope scope ps params)
    (h : ∀ (f c' : Addr) (pm ctv : Value) (H1 : Hp) (s' : Shared), Inv X pins σV H1 s' → Rel S φ M H1 → Keep φ φ H H1 → H1 f = some (FunO f (lamOb (X.env.qual ++ "<lambda>") params body scope (cloFrom X.env.cells scope.names []) pm c' ctv)) → H1 c' = some (CodeO c' (X.env.qual ++ "<lambda>")) → Q (.ref f) s') :
    wpAny (model X.prog X.w) X.A (eval (.Lambda params body scope pos) X.env) Q E s := by
  obtain ⟨⟨c, P, hcode, hin⟩, _⟩ := LO
  have TB := G.gb.tab c P _ hin
  obtain ⟨hm, hu⟩ := TF.mem _ _ _ hin
  have hT := Re.tab
  obtain ⟨ps', hP, ht, ha⟩ := hT _ hm
  have hdef : defaultsOf params X.env = ([], []) := by
    obtain ⟨a1, a2, a3, a4, a5, a6, a7⟩ := params
    have e1 := hl.df
    have e2 := hl.kd
    dsimp only at e1 e2
    subst e1 e2
    rfl
  have hfree : ∀ y ∈ scope.names, y.2 = .free → ∃ c, X.env.cells.lookup y.1 = some c := fun y hy e => by
    rcases hl.fr y hy e with k | k
    · exact I.ok.has _ (.inl k)
    · exact I.ok.has _ (.inr k)
  refine PySem.W.kla_eval hdef ?_
  have eMg : X.mg = S.mg := G.mg
  have bP : s.heap.BuiltinsAt X.mg P := by rw [eMg]; exact TB.bm.keeps I.bk
  have hP' : s.heap.get? P = some { cls := .none, data := .fields ps' } := I.hok P _ hP
  cases hc : codeAmong pos ps'.toList with
  | none =>
    refine PySem.W.kla_makeFunction (mg := X.mg) (c := c) (P := P) (ps := ps') (L2.closure_ok hfree) I.ok.glob (I.mod.glob.keeps I.bk) hcode (TB.code.keeps I.bk) hP' ht hc TB.gP bP fun c' ctv h' tk hx hge hlt hrec htb => ?_
    obtain ⟨c2, oc, vs, t, e2, hoc, hd, hv⟩ := hrec
    cases e2
    have hsz : s.heap.objs.size ≤ h'.objs.size := Nat.le_trans hge (Nat.le_of_lt hlt)
    have nC : H c' = none := I.hok.fresh hge
    have I0 := LamX.inv_table (t' := tk) (more := #[rawInt pos.line, rawInt pos.col, .ref c']) (h' := h') I hP (fun b o hb e => hx b o hb e) htb hge ⟨oc, vs, t, hoc, hd, hv⟩
    have nF : upd (upd H P (.tbl (ps' ++ #[rawInt pos.line, rawInt pos.col, .ref c']))) c' (CodeO c' (X.env.qual ++ "<lambda>")) h'.objs.size = none := I0.hok.fresh (Nat.le_refl _)
    have I1 := I0.laid (a := h'.objs.size) (o := FunO h'.objs.size (lamOb (X.env.qual ++ "<lambda>") params body scope (cloFrom X.env.cells scope.names []) ((X.mg "__name__").getD .none) c' ctv)) (h' := h'.push (PySem.W.kla_obj "<lambda>" (X.env.qual ++ "<lambda>") params body scope (cloFrom X.env.cells scope.names []) ((X.mg "__name__").getD .none) c' ctv)) (t' := tk)
      (fun b o e => Heap.get?_push_of_some _ e) (Nat.le_refl _) (funO_ok (Heap.get?_push_size _ rfl))
    have hE : ∀ b o, H b = some o → (∀ ps, o ≠ .tbl ps) → upd (upd (upd H P (.tbl (ps' ++ #[rawInt pos.line, rawInt pos.col, .ref c']))) c' (CodeO c' (X.env.qual ++ "<lambda>"))) h'.objs.size (FunO h'.objs.size (lamOb (X.env.qual ++ "<lambda>") params body scope (cloFrom X.env.cells scope.names []) ((X.mg "__name__").getD .none) c' ctv)) b = some o := fun b o e n => by
      have e1 : upd (upd H P (.tbl (ps' ++ #[rawInt pos.line, rawInt pos.col, .ref c']))) c' (CodeO c' (X.env.qual ++ "<lambda>")) b = some o := by
        rw [upd_ne (ne_of_none e nC), upd_ne (fun z => n ps' (Option.some.inj (e.symm.trans (by rw [z]; exact hP))))]
        exact e
      rw [upd_ne (ne_of_none e1 nF)]
      exact e1
    have eL : (ps' ++ #[rawInt pos.line, rawInt pos.col, .ref c']).toList = ps'.toList ++ [rawInt pos.line, rawInt pos.col, .ref c'] := by simp
    have up : ∀ {b : Addr} {o : HO}, upd (upd H P (.tbl (ps' ++ #[rawInt pos.line, rawInt pos.col, .ref c']))) c' (CodeO c' (X.env.qual ++ "<lambda>")) b = some o → upd (upd (upd H P (.tbl (ps' ++ #[rawInt pos.line, rawInt pos.col, .ref c']))) c' (CodeO c' (X.env.qual ++ "<lambda>"))) h'.objs.size (FunO h'.objs.size (lamOb (X.env.qual ++ "<lambda>") params body scope (cloFrom X.env.cells scope.names []) ((X.mg "__name__").getD .none) c' ctv)) b = some o := fun e => by
      rw [upd_ne (ne_of_none e nF)]; exact e
    have K : Keep φ φ H (upd (upd (upd H P (.tbl (ps' ++ #[rawInt pos.line, rawInt pos.col, .ref c']))) c' (CodeO c' (X.env.qual ++ "<lambda>"))) h'.objs.size (FunO h'.objs.size (lamOb (X.env.qual ++ "<lambda>") params body scope (cloFrom X.env.cells scope.names []) ((X.mg "__name__").getD .none) c' ctv))) := by
      refine ⟨fun b o e i => hE b o e fun ps z => ?_, fun b o e _ n => hE b o e n, fun b o e => ?_, [], (List.append_nil _).symm, fun _ z => nomatch z⟩
      · subst z; exact i
      · by_cases hb : b = P
        · subst hb
          exact ⟨_, up (by rw [upd_ne (ne_of_none hP nC), upd_same])⟩
        · exact ⟨o, up (by rw [upd_ne (ne_of_none e nC), upd_ne hb]; exact e)⟩
    refine h h'.objs.size c' ((X.mg "__name__").getD .none) ctv _ _ I1 ⟨Re.len, Re.nd, fun n o b h1 h2 => (Re.ob n o b h1 h2).mono K fun u hu => hE b u hu ?_, fun p hp => ?_⟩ K upd_same (up upd_same)
    · obtain ⟨u', hu', _, hn⟩ := (Re.ob n o b h1 h2).have_
      rw [hu] at hu'; cases hu'
      exact hn
    · by_cases hb : p.1 = P
      · rw [hu p hp hb, hb]
        refine ⟨_, up (by rw [upd_ne (ne_of_none hP nC), upd_same]), by rw [eL]; exact PySem.TriplesOk_snoc _ _ _ _ ht, fun p' cv hcv => ?_⟩
        rw [eL] at hcv
        rcases LamX.among_app _ ht hcv with z | z
        · obtain ⟨c0, e1, e2⟩ := ha p' cv z
          exact ⟨c0, e1, hE _ _ e2 LamX.codeO_ne⟩
        · exact ⟨c', z, up upd_same⟩
      · obtain ⟨ps', a1, a2, a3⟩ := hT p hp
        refine ⟨ps', up (by rw [upd_ne (ne_of_none a1 nC), upd_ne hb]; exact a1), a2, fun p' cv hcv => ?_⟩
        obtain ⟨c0, e1, e2⟩ := a3 p' cv hcv
        exact ⟨c0, e1, hE _ _ e2 LamX.codeO_ne⟩
  | some cv =>
    obtain ⟨c', e, hco⟩ := ha pos cv hc
    subst e
    refine PySem.W.kla_makeFunctionHit (mg := X.mg) (c := c) (P := P) (ps := ps') (L2.closure_ok hfree) I.ok.glob (I.mod.glob.keeps I.bk) hcode (TB.code.keeps I.bk) hP' ht hc bP fun ctv h' tk hx hsz => ?_
    have nF : H h'.objs.size = none := I.hok.fresh hsz
    have I1 := I.laid (a := h'.objs.size) (o := FunO h'.objs.size (lamOb (X.env.qual ++ "<lambda>") params body scope (cloFrom X.env.cells scope.names []) ((X.mg "__name__").getD .none) c' ctv)) (h' := h'.push (PySem.W.kla_obj "<lambda>" (X.env.qual ++ "<lambda>") params body scope (cloFrom X.env.cells scope.names []) ((X.mg "__name__").getD .none) c' ctv)) (t' := tk)
      (fun b o e => Heap.get?_push_of_some _ (hx b o e)) hsz (funO_ok (Heap.get?_push_size _ rfl))
    refine h h'.objs.size c' ((X.mg "__name__").getD .none) ctv _ _ I1 (Re.new nF) (keep_new nF) upd_same ?_
    rw [upd_ne (ne_of_none hco nF)]
    exact hco
end
end Mi
end
section
set_option Elab.async false
set_option linter.all false
set_option maxRecDepth 100000
/-! S13: the ground of a call; arguments. -/
namespace Mi
open PySem PySem.Spec PyProof.Rows
open L2 (V Hp HO SqL SqT RelV upd upd_same upd_ne ne_of ne_of_none Key Cx Inv PE PT PW PA PC TE TT TA VK Vis Takes WX XK Room OpR Dp DpAll thn TyX TyOf ClsV Vals EP TP PO CallR Env0 frs trk)
open L2 (cloFrom)
open LamX (ExtN Tabs TabB CodeO)
def hidB (h : Heap) (H : Hp) (l : List Addr) : Heap := PySem.W.hideAll h (trk h H ++ l)
theorem hidB_size (h : Heap) (H : Hp) (l : List Addr) : (hidB h H l).objs.size = h.objs.size := PySem.W.hideAll_size _ _
theorem hidB_get {h : Heap} {H : Hp} {l : List Addr} {b : Addr} {o : PySem.Obj} (e : h.get? b = some o) (n : H b = none) (hl : b ∉ l) : (hidB h H l).get? b = some o :=
  PySem.W.hideAll_get _ e fun hm => by
    rcases List.mem_append.mp hm with hm | hm
    · have q : (H b).isSome = true := (List.mem_filter.mp hm).2
      rw [n] at q; simp at q
    · exact hl hm
theorem of_hidB {h : Heap} {H : Hp} {l : List Addr} {b : Addr} {o : PySem.Obj} (e : (hidB h H l).get? b = some o) : h.get? b = some o ∧ H b = none ∧ b ∉ l := by
  have e' : h.get? b = some o := PySem.W.of_hideAll _ e
  have nm : b ∉ trk h H ++ l := fun hm => by
    have z : (hidB h H l).get? b = none := PySem.W.hideAll_none _ hm
    rw [z] at e; cases e
  refine ⟨e', ?_, fun z => nm (List.mem_append_right _ z)⟩
  cases q : H b with
  | none => rfl
  | some x => exact (nm (List.mem_append_left _ (List.mem_filter.mpr ⟨List.mem_range.mpr (Heap.lt_size e'), by simp [q]⟩))).elim

section
variable {S : Link} {k : Nat} {X : Cx} {W : WX} {pins : List (Addr × PySem.Obj)} {σV : L2.St} {H : Hp} {s : Shared} {φ : List Addr} {M : Mem}
abbrev hidX (X : Cx) (s : Shared) (H : Hp) : Heap := hidB s.heap H (frs X.stack)
theorem base_hid (I : Inv X pins σV H s) {b : Addr} {o : PySem.Obj} (e : X.base.get? b = some o) : (hidX X s H).get? b = some o := by
  obtain ⟨e1, e2⟩ := I.bs b o e
  refine hidB_get e1 e2 fun z => ?_
  rcases List.mem_cons.mp (I.stkSub b z) with q | q
  · have h1 := Heap.lt_size e
    have h2 := I.ok.bsz
    have h3 := I.ok.above
    exact absurd (Nat.lt_of_lt_of_le h1 (Nat.le_trans h2 h3)) (by rw [q]; exact Nat.lt_irrefl _)
  · exact I.ok.nofr e q
theorem goodB_hid (G : Good S k X) (I : Inv X pins σV H s) : GoodB S (hidX X s H) := by
  have kp : ∀ b o, X.base.get? b = some o → (hidX X s H).get? b = some o := fun b o e => base_hid I e
  obtain ⟨m1, m2⟩ := G.gb
  refine ⟨⟨m1.kin.keeps kp, m1.glob.keeps kp, ?_, m1.nolimit.keeps kp⟩, fun c P q hc => ?_⟩
  · obtain ⟨mb, h1, h2⟩ := m1.blt
    exact ⟨mb, h1.keeps kp, h2⟩
  · obtain ⟨t1, t2, t3⟩ := m2 c P q hc
    exact ⟨t1.keeps kp, t2.keeps kp, t3⟩
theorem env0_hid (G : Good S k X) (I : Inv X pins σV H s) : Env0 S.P S.w S.K S.mg (hidX X s H) X.A X.stack s H := by
  obtain ⟨e1, e2, e3, e4, e5, e6, e7, e8⟩ := I.env0
  refine ⟨e1, (goodB_hid G I).mod, fun b o e => ⟨(of_hidB e).1, (of_hidB e).2.1⟩, Nat.le_of_eq (hidB_size _ _ _), ?_, e6, by rw [← G.prog, ← G.w]; exact e7, e8⟩
  exact L2.funFrames_none e5 fun L hL => by
    cases q : (hidX X s H).get? L with
    | none => rfl
    | some o => exact ((of_hidB q).2.2 hL).elim

/-! ### arguments -/
inductive RAg (S : Link) (X : Cx) (σV : L2.St) (φ : List Addr) (H : Hp) : Val → V → Prop
  | rs {v : Val} {x : V} : RS S X.base X.pn φ H v x → RAg S X σV φ H v x
  | lam {ps : List Nat} {b : Ex} {σ : Sl} {scope : Scope} {a : Arguments} {body : Expr} {pm ct : Value} {f c' : Addr} :
      (∀ y c, X.env.cells.lookup y = some c → c ∉ X.fs) → SR S X φ H σ σV → lamB X.N X.env.scope scope ps a = true → chk S.T false X.N scope b body = true →
      H f = some (FunO f (lamOb (X.env.qual ++ "<lambda>") a body scope (cloFrom X.env.cells scope.names []) pm c' ct)) → H c' = some (CodeO c' (X.env.qual ++ "<lambda>")) → RAg S X σV φ H (.clo ps b σ) (.ref f)
inductive RAgs (S : Link) (X : Cx) (σV : L2.St) (φ : List Addr) (H : Hp) : List Val → List V → Prop
  | nil : RAgs S X σV φ H [] []
  | cons {v : Val} {vs : List Val} {x : V} {xs : List V} : RAg S X σV φ H v x → RAgs S X σV φ H vs xs → RAgs S X σV φ H (v :: vs) (x :: xs)
theorem RAg.mono {φ' : List Addr} {H' : Hp} (K : Keep φ φ' H H') {v : Val} {x : V} (r : RAg S X σV φ H v x) : RAg S X σV φ' H' v x := by
  cases r with
  | rs r => exact .rs (r.mono K)
  | lam h0 h1 h2 h3 h4 h5 => exact .lam h0 (h1.mono K) h2 h3 (K.imm _ _ h4 trivial) (K.imm _ _ h5 trivial)
theorem RAgs.mono {φ' : List Addr} {H' : Hp} (K : Keep φ φ' H H') : ∀ {v : List Val} {x : List V}, RAgs S X σV φ H v x → RAgs S X σV φ' H' v x
  | _, _, .nil => .nil
  | _, _, .cons r t => .cons (r.mono K) (RAgs.mono K t)
theorem RSs.ags : ∀ {v : List Val} {x : List V}, RSs S X.base X.pn φ H v x → RAgs S X σV φ H v x
  | _, _, .nil => .nil
  | _, _, .cons r t => .cons (.rs r) (RSs.ags t)
theorem noXs_at {σ : Sl} (h : noXs σ = true) {i : Nat} {v : Val} (e : σ[i]? = some (some v)) : v.isX = false := by
  have := List.all_eq_true.mp h (some v) (List.mem_of_getElem? e)
  simpa using this
theorem look_names {sc : Scope} {y : Str} {kd : NameKind} (h : sc.names.lookup y = some kd) : (y, kd) ∈ sc.names := PySem.mem_of_lookup h
/-- an argument, on the callee's ground -/
theorem RAg.conv (G : Good S k X) (I : Inv X pins σV H s) {v : Val} {x : V} (r : RAg S X σV φ H v x) (hx : cloX v = true) : RS S (hidX X s H) [] φ H v x := by
  cases r with
  | rs r =>
    refine RS.base (fun b o e => base_hid I e) (r.pn ?_)
    cases v <;> first | rfl | (cases hx)
  | @lam ps b σ scope a body pm ct f c' hcf sr h2 h3 h4 h5 =>
    have LB := lamB_of h2
    have hfree : ∀ y ∈ scope.names, y.2 = .free → ∃ c, X.env.cells.lookup y.1 = some c := fun y hy e => by
      rcases LB.fr y hy e with k | k
      · exact I.ok.has _ (.inl k)
      · exact I.ok.has _ (.inr k)
    have cm : ∀ {y c}, (cloFrom X.env.cells scope.names []).lookup y = some c → X.env.cells.lookup y = some c ∧ (y, NameKind.free) ∈ scope.names := fun {y c} e => by
      rcases L2.cloFrom_mem (PySem.mem_of_lookup e) with hm | ⟨h1, h2⟩
      · cases hm
      · obtain ⟨c1, hc⟩ := hfree _ h1 rfl
        have hc : X.env.cells.lookup y = some c1 := hc
        have e2 : c = c1 := by
          rw [h2, hc] <;> rfl
        rw [e2]
        exact ⟨hc, h1⟩
    have nfr : ∀ y c, X.env.cells.lookup y = some c → ∀ v, s.heap.IsCell c v → c ∉ frs X.stack := fun y c e v ⟨o, ho, hd⟩ z => by
      rcases List.mem_cons.mp (I.stkSub c z) with q | q
      · exact I.cne y c e q
      · exact hcf y c e q
    have val : ∀ i y v, X.N[i]? = some y → scope.names.lookup y = some .free → σ[i]? = some (some v) → ∃ x, σV[i]? = some (some x) ∧ RS S X.base X.pn φ H v x := fun i y v e1 e2 e3 => by
      have hv : Vis X.env.scope y := by
        rcases LB.fr _ (look_names e2) rfl with q | q
        · exact .inr (.inl q)
        · exact .inr (.inr q)
      exact sr.at_ i y v e3 e1 hv
    refine .clo (N := X.N) (sc := X.env.scope) (fun i => match σV[i]? with | some (some x) => x | _ => .non) G.nd sr.len h2 h3 h4 h5 (fun y z c e1 e2 => I.ok.inj y z c (cm e1).1 (cm e2).1) (fun y c e => ?_) (fun y e => ?_) (fun i y c v e1 e2 e3 e4 => ?_) fun i y v e1 e2 e3 => ?_
    · obtain ⟨e1, _⟩ := cm e
      obtain ⟨v, o, ho, hd⟩ := I.cell y c e1
      exact ⟨o, v, hidB_get ho (I.freeC y c e1) (nfr y c e1 v ⟨o, ho, hd⟩), hd⟩
    · obtain ⟨c, hc⟩ := hfree _ (look_names e) rfl
      exact L2.mem_lookup (L2.cloFrom_has (look_names e))
    · obtain ⟨x, hx1, hr⟩ := val i y v e1 e2 e3
      obtain ⟨e5, _⟩ := cm e4
      have hv : Vis X.env.scope y := by
        rcases LB.fr _ (look_names e2) rfl with q | q
        · exact .inr (.inl q)
        · exact .inr (.inr q)
      obtain ⟨m, hn, hl⟩ := I.loc
      obtain ⟨u, ru, q⟩ := hl i y x e1 hx1 hv
      refine ⟨u, ?_, by rw [hx1]; exact ru⟩
      rcases q with ⟨q, _⟩ | ⟨_, c2, e6, hc⟩
      · have q : X.env.scope.names.lookup y = some .local := q
        rcases LB.fr _ (look_names e2) rfl with q2 | q2 <;> rw [show X.env.scope.names.lookup y = _ from q2] at q <;> cases q
      · rw [e5] at e6; cases e6
        obtain ⟨o, ho, hd⟩ := hc
        exact ⟨o, hidB_get ho (I.freeC y c e5) (nfr y c e5 _ ⟨o, ho, hd⟩), hd⟩
    · obtain ⟨x, hx1, hr⟩ := val i y v e1 e2 e3
      rw [hx1]
      exact RS.base (fun b o e => base_hid I e) (hr.pn (noXs_at hx e3))
theorem RAgs.conv (G : Good S k X) (I : Inv X pins σV H s) : ∀ {v : List Val} {x : List V}, RAgs S X σV φ H v x → cloXs v = true → RSs S (hidX X s H) [] φ H v x
  | _, _, .nil, _ => .nil
  | v :: vs, _, .cons r t, h => by
    obtain ⟨h1, h2⟩ := Bool.and_eq_true_iff.mp (show (cloX v && cloXs vs) = true from h)
    exact .cons (r.conv G I h1) (RAgs.conv G I t h2)
end
end Mi
end
section
set_option Elab.async false
set_option linter.all false
set_option maxRecDepth 100000
/-! S14: what a run promises; calls. -/
namespace Mi
open PySem PySem.Spec PyProof.Rows
open L2 (V Hp HO SqL SqT RelV upd upd_same upd_ne ne_of ne_of_none Key Cx Inv PE PT PW PA PC TE TT TA VK Vis Takes WX XK Room OpR Dp DpAll thn TyX TyOf ClsV Vals EP TP PO CallR Env0 frs trk FnScope AP)
open L2 (cloFrom)
open LamX (ExtN Tabs TabB CodeO)
/-- a def of the text, where it stands -/
structure CodeF (S : Link) (d : Fn) (f : Addr) (fd : FuncData) (N : List Str) (L : Bool) : Prop where
  ex : ∃ (x qual : Str) (params : Arguments) (body : List Stmt) (scope : Scope) (oc : Value) (od : Option Addr) (dV kV doc pm : Value) (an : Option Addr) (cdv ct : Value) (osl : Array (Option Value)) (dvs : List V),
    fd = PySem.W.fnOf x qual params body scope dV kV doc pm an cdv ct ∧ S.K.lookup f = some ⟨oc, od, .func fd, osl⟩ ∧ PySem.W.codeIn S.K cdv qual = true ∧ L2.DflV S.K dV dvs ∧ (∀ φ H, RDs S φ H d.dfl dvs) ∧
    FnScope N (params.args.map (·.arg)) scope ∧ chkSs S.T L N scope d.body body = true ∧ (L = true → ∃ c P, cdv = .ref c ∧ (c, P, qual ++ ".<locals>.") ∈ S.cods)
  kp : PySem.W.keepIn S.K (.ref f) = true
  pl : plainP fd.params = true
  np : fd.params.args.length = d.np
  dl : d.dfl.length ≤ d.np
  nl : N.length = d.n
structure FnF (S : Link) : Prop where
  ok : ∀ x, S.T.fnOk x = true → (S.Pr.fn x).isSome = true
  isf : ∀ x, S.Pr.env.isFn x = true → (S.Pr.fn x).isSome = true
  ism : ∀ c m, S.Pr.env.isMt c m = true → (S.Pr.mt c m).isSome = true
  mke : ∀ c, S.T.mkOk c = true → (S.Pr.mt c S.Pr.env.init).isSome = true ∧ S.Pr.env.isCls c = true ∧ ∀ s C f, S.T.names[c]? = some s → S.mg s = some (.ref C) → L2.Meth S.K C "__init__" f → L2.Mk S.K C f
  ini : S.T.names[S.Pr.env.init]? = some ("__init__" : Str)
  fn : ∀ x d, S.Pr.fn x = some d → ∃ s f fd N L, S.T.names[x]? = some s ∧ S.mg s = some (.ref f) ∧ CodeF S d f fd N L ∧ S.T.pars x = fd.params.args.map (·.arg)
  mt : ∀ c m d, S.Pr.mt c m = some d → ∃ sc C sm f fd N L, S.T.names[c]? = some sc ∧ S.mg sc = some (.ref C) ∧ S.T.names[m]? = some sm ∧ L2.Meth S.K C sm f ∧ L2.Cls S.K C ∧ CodeF S d f fd N L
abbrev RD0 (S : Link) : List Addr → Hp → Val → V → Prop := fun φ H v x => RD S φ H v x
def runD (S : Link) (k : Nat) (d : Fn) (us : List Val) (M : Mem) : R Val :=
  match k with
  | 0 => .err
  | k + 1 => runB S.Pr.env (run S.Pr k) d us M
def RunFn (S : Link) (k : Nat) (base : Heap) : Prop :=
  ∀ (d : Fn) (f : Addr) (fd : FuncData) (N : List Str) (L : Bool), CodeF S d f fd N L → ∀ (A : Around) (outer : List PySem.Env) (s : Shared) (H : Hp) (args : Args) (us : List Value) (vs : List V) (Q : VK) (E : XK) (φ : List Addr) (M : Mem) (ws : List Val),
    Room (2 * k) A → Env0 S.P S.w S.K S.mg base A outer s H → BindsTo s fd args ((fd.params.args.map (·.arg)).zip us) → Vals vs us → Rel S φ M H → RSs S base [] φ H ws vs → TV S (RD0 S) φ H (runD S k d ws M) Q E →
    codeAny (model S.P S.w) A (.call (.ref f) args) (L2.CR (L2.CX S.P S.w) outer S.P S.w H s Q E) s
def RunClo (S : Link) (k : Nat) (base : Heap) : Prop :=
  ∀ (ps : List Nat) (b : Ex) (σ : Sl) (f : Addr) (A : Around) (outer : List PySem.Env) (s : Shared) (H : Hp) (us : List Value) (vs : List V) (Q : VK) (E : XK) (φ : List Addr) (M : Mem) (ws : List Val),
    Room (2 * k) A → Env0 S.P S.w S.K S.mg base A outer s H → RS S base [] φ H (.clo ps b σ) (.ref f) → Vals vs us → Rel S φ M H → RSs S base [] φ H ws vs → TV S (RD0 S) φ H (run S.Pr k (.clo ps b σ) ws M) Q E →
    codeAny (model S.P S.w) A (.call (.ref f) ⟨us, []⟩) (L2.CR (L2.CX S.P S.w) outer S.P S.w H s Q E) s
/-- what runs of depth k promise -/
structure RunOk (S : Link) (k : Nat) : Prop where
  fn : ∀ base, GoodB S base → RunFn S k base
  clo : ∀ base, GoodB S base → RunClo S k base

section
variable {S : Link} {d : Fn} {f : Addr} {fd : FuncData} {N : List Str} {L : Bool}
theorem fnOf_params {x qual : Str} {params : Arguments} {body : List Stmt} {scope : Scope} {dV kV doc pm : Value} {an : Option Addr} {cdv ct : Value} : (PySem.W.fnOf x qual params body scope dV kV doc pm an cdv ct).params = params := rfl
theorem fnOf_dfl {x qual : Str} {params : Arguments} {body : List Stmt} {scope : Scope} {dV kV doc pm : Value} {an : Option Addr} {cdv ct : Value} : (PySem.W.fnOf x qual params body scope dV kV doc pm an cdv ct).defaults = dV := rfl
/-- values, then the defaults that fill up -/
theorem CodeF.binds (C : CodeF S d f fd N L) {s : Shared} {us : List Value} (KX : S.K.In s.heap) (h1 : us.length ≤ d.np) (h2 : d.np ≤ us.length + d.dfl.length) :
    ∃ (ds : List Value) (zs : List V), Vals zs ds ∧ (∀ φ H, RDs S φ H (d.dfl.drop (d.dfl.length - (d.np - us.length))) zs) ∧ BindsTo s fd ⟨us, []⟩ ((fd.params.args.map (·.arg)).zip (us ++ ds)) := by
  obtain ⟨x, qual, params, body, scope, oc, od, dV, kV, doc, pm, an, cdv, ct, osl, dvs, rfl, lk, hcd, hD, hR, hS, hc, hL⟩ := C.ex
  have hnp := C.np
  have hdl := C.dl
  have hpl := C.pl
  have ld : d.dfl.length = dvs.length := (hR [] (fun _ => none)).length
  rw [fnOf_params] at hnp
  have key : ∀ ds : List Value, Vals dvs ds → ∃ k, bindArgs (PySem.W.fnOf x qual params body scope dV kV doc pm an cdv ct) ⟨us, []⟩ = seqItems? dV >>= k ∧ ∀ o, (o.getD #[]).toList = ds → k o = pure ((params.args.map (·.arg)).zip (us ++ ds.drop (us.length - (params.args.length - ds.length)))) := fun ds r => by
    have l2 := r.length
    exact bind_pos (fd := PySem.W.fnOf x qual params body scope dV kV doc pm an cdv ct) hpl (by rw [fnOf_params]; omega) (by rw [fnOf_params]; omega) (by rw [fnOf_params]; omega)
  obtain ⟨ds, rds, hlk⟩ : ∃ ds, Vals dvs ds ∧ ∀ (M : Model) (r : List (Str × Value)) (k : Option (Array Value) → Sem (List (Str × Value))), (∀ o, (o.getD #[]).toList = ds → k o = pure r) → PySem.W.Looks M s.heap (seqItems? dV >>= k) r := by
    rcases hD with ⟨e1, e2⟩ | ⟨_, T, o, its, n, e2, lT, oT, rT⟩
    · subst e1 e2
      exact ⟨[], .nil, fun M r k hk => PySem.W.Looks.of_pure (show (seqItems? .none >>= k) = pure r from hk none rfl)⟩
    · subst e2
      exact ⟨its, rT, fun M r k hk => L2.looks_items KX lT oT (.of_pure (hk (some its.toArray) rfl))⟩
  have l2 := rds.length
  refine ⟨ds.drop (us.length - (params.args.length - ds.length)), dvs.drop (us.length - (params.args.length - ds.length)), rds.drop _, fun φ H => ?_, ?_⟩
  · have := (hR φ H).drop (us.length - (params.args.length - ds.length))
    rw [show d.dfl.length - (d.np - us.length) = us.length - (params.args.length - ds.length) by omega]
    exact this
  · refine L2.BindsTo.of_looks fun M => ?_
    obtain ⟨k, e1, e2⟩ := key ds rds
    rw [e1]
    exact hlk M _ k e2
/-- all by keywords, in order -/
theorem CodeF.bindK (C : CodeF S d f fd N L) {s : Shared} {us : List Value} (KX : S.K.In s.heap) (h1 : us.length = d.np) : BindsTo s fd ⟨[], (fd.params.args.map (·.arg)).zip us⟩ ((fd.params.args.map (·.arg)).zip us) := by
  obtain ⟨x, qual, params, body, scope, oc, od, dV, kV, doc, pm, an, cdv, ct, osl, dvs, rfl, lk, hcd, hD, hR, hS, hc, hL⟩ := C.ex
  have hnp := C.np
  have hdl := C.dl
  have hpl := C.pl
  have ld : d.dfl.length = dvs.length := (hR [] (fun _ => none)).length
  rw [fnOf_params] at hnp
  obtain ⟨k, e1, e2⟩ := bind_kw (fd := PySem.W.fnOf x qual params body scope dV kV doc pm an cdv ct) (ws := us) hpl (by rw [fnOf_params]; omega)
  refine L2.BindsTo.of_looks fun M => ?_
  rw [e1]
  rcases hD with ⟨e3, e4⟩ | ⟨_, T, o, its, n, e4, lT, oT, rT⟩
  · subst e3 e4
    exact PySem.W.Looks.of_pure (show (seqItems? .none >>= k) = _ from e2 none (Nat.zero_le _))
  · subst e4
    exact L2.looks_items KX lT oT (.of_pure (e2 (some its.toArray) (by
      show its.length ≤ _
      rw [fnOf_params, ← rT.length]; omega)))
theorem fill_len {ws : List Val} (h : (fill d ws).length = d.np) : ws.length ≤ d.np ∧ d.np ≤ ws.length + d.dfl.length := by
  unfold fill at h
  rw [List.length_append, List.length_drop] at h
  omega
end
end Mi
end
section
set_option Elab.async false
set_option linter.all false
set_option maxRecDepth 100000
/-! S15: calls of defs, of what a slot holds. -/
namespace Mi
open PySem PySem.Spec PyProof.Rows
open L2 (V Hp HO SqL SqT RelV upd upd_same upd_ne ne_of ne_of_none Key Cx Inv PE PT PW PA PC TE TT TA VK Vis Takes WX XK Room OpR Dp DpAll thn TyX TyOf ClsV Vals EP TP PO CallR Env0 frs trk FnScope AP)
open L2 (cloFrom)
open LamX (ExtN Tabs TabB CodeO)
section
variable {S : Link} {k : Nat} {X : Cx} {W : WX} {pins : List (Addr × PySem.Obj)} {σV : L2.St} {H : Hp} {s : Shared} {φ : List Addr} {M : Mem}
/-- arguments: expressions, lambdas -/
inductive PAgs (S : Link) (k : Nat) (X : Cx) (W : WX) : List Ag → List Expr → Prop
  | nil : PAgs S k X W [] []
  | ex {A : Ex} {As : List Ag} {a : Expr} {as : List Expr} : PE X a (tEv S k X W A) → starEach (a :: as) X.env = (false, eval a X.env) :: starEach as X.env → PAgs S k X W As as → PAgs S k X W (.ex A :: As) (a :: as)
  | lam {ps : List Nat} {b : Ex} {As : List Ag} {scope : Scope} {a : Arguments} {body : Expr} {pos : Pos} {as : List Expr} : LamOk S X → lamB X.N X.env.scope scope ps a = true → chk S.T false X.N scope b body = true → PAgs S k X W As as → PAgs S k X W (.lam ps b :: As) (.Lambda a body scope pos :: as)
abbrev tAg (S : Link) (k : Nat) (X : Cx) (W : WX) (As : List Ag) : TA := fun σV => tE S X W (RAgs S X σV) (fun σ M => evAs S.Pr.env (run S.Pr k) As σ M) σV
/-- a lambda as a reading -/
def tLm (S : Link) (X : Cx) (scope : Scope) (a : Arguments) (body : Expr) : TE := fun σV H Q => ∃ φ M, Rel S φ M H ∧ ∀ (f c' : Addr) (pm ct : Value) (H1 : Hp), Rel S φ M H1 → Keep φ φ H H1 →
  H1 f = some (FunO f (lamOb (X.env.qual ++ "<lambda>") a body scope (cloFrom X.env.cells scope.names []) pm c' ct)) → H1 c' = some (CodeO c' (X.env.qual ++ "<lambda>")) → Q (.ref f) H1
theorem pe_lm (G : Good S k X) (TF : TabF S) (LO : LamOk S X) {scope : Scope} {ps : List Nat} {a : Arguments} {body : Expr} {pos : Pos} (hl : lamB X.N X.env.scope scope ps a = true) : PE X (.Lambda a body scope pos) (tLm S X scope a body) := by
  refine ⟨fun pins s σV H Q I ⟨φ, M, Re, h⟩ => ?_⟩
  exact lam_new G TF LO I Re (lamB_of hl) fun f c' pm ct H1 s' I1 R1 K1 e1 e2 => ⟨.ref f, H1, I1, rfl, h f c' pm ct H1 R1 K1 e1 e2⟩
theorem pags_plain {pos : Pos} {As : List Ag} {as : List Expr} (h : PAgs S k X W As as) : (backTo pos (starEach as X.env)).any (·.1) = false := by
  induction h with
  | nil => rfl
  | ex _ hs _ ih => rw [hs]; exact ih
  | lam _ _ _ _ ih => exact ih
theorem pags_head {As : List Ag} {a : Expr} {as : List Expr} (h : PAgs S k X W As (a :: as)) : starEach (a :: as) X.env = (false, eval a X.env) :: starEach as X.env ∧ ∃ Bs, PAgs S k X W Bs as := by
  cases h with
  | ex _ hs h => exact ⟨hs, _, h⟩
  | lam _ _ _ h => exact ⟨rfl, _, h⟩
theorem pa_ag (G : Good S k X) (TF : TabF S) : ∀ {As : List Ag} {as : List Expr}, PAgs S k X W As as → PA X as (tAg S k X W As)
  | _, _, .nil => PA_imp L2.pa_nil fun σV H Q ⟨φ, σ, M, Re, sr, h⟩ => by
    have h : TV S (RAgs S X σV) φ H (evAs S.Pr.env (run S.Pr k) [] σ M) Q _ := h
    rw [evAs] at h
    exact TV.ok Re .nil h
  | _, _, .ex (A := A) (As := As) ha hs hr => by
    refine PA_imp (L2.pa_cons ha (pa_ag G TF hr) hs) fun σV H Q h => ?_
    refine tE_mono (tE_bind (RV := RX S X) (g := fun σ v M => (evAs S.Pr.env (run S.Pr k) As σ M).bind fun vs M => .ok (v :: vs) M) (tE_cong h fun σ M => by rw [evAs])) fun x H1 ⟨φ, σ, v, M, Re, sr, r, h1⟩ => ?_
    refine ⟨φ, σ, M, Re, sr, ?_⟩
    exact (TV.bind (RV := RAgs S X σV) h1).mono fun xs H2 ⟨φ2, vs, M2, R2, K2, r2, h2⟩ => TV.ok R2 (.cons (.rs (RS.mono K2 r)) r2) h2
  | _, _, .lam (ps := ps) (b := b) (As := As) LO hl hc hr => by
    refine PA_imp (L2.pa_cons (pe_lm G TF LO hl) (pa_ag G TF hr) rfl) fun σV H Q h => ?_
    obtain ⟨φ, σ, M, Re, sr, h⟩ := h
    have h : TV S (RAgs S X σV) φ H ((evAs S.Pr.env (run S.Pr k) As σ M).bind fun vs M => .ok (.clo ps b σ :: vs) M) Q fun c d H' => W c d σV H' := by
      have h : TV S (RAgs S X σV) φ H (evAs S.Pr.env (run S.Pr k) (.lam ps b :: As) σ M) Q fun c d H' => W c d σV H' := h
      rw [evAs] at h
      exact h
    refine ⟨φ, M, Re, fun f c' pm ct H1 R1 K1 e1 e2 => ⟨φ, σ, M, R1, sr.mono K1, ?_⟩⟩
    exact (TV.bind (RV := RAgs S X σV) (TV.keep K1 h)).mono fun xs H2 ⟨φ2, vs, M2, R2, K2, r2, h2⟩ => TV.ok R2 (.cons (.lam LO.2 ((sr.mono K1).mono K2) hl hc (K2.imm _ _ e1 trivial) (K2.imm _ _ e2 trivial)) r2) h2

/-- the end of a call, in the caller -/
theorem call_end {f : Addr} {us : List Value} {kw : List (Str × Value)} {Q : VK} (tk : Takes X W) (I : Inv X pins σV H s)
    (h : codeAny (model X.prog X.w) X.A (.call (.ref f) ⟨us, kw⟩) (L2.CR (L2.CX X.prog X.w) X.stack X.prog X.w H s Q fun c d H' => W c d σV H') s) : wpAny (model X.prog X.w) X.A (call (.ref f) us kw) (EP X pins σV Q) X.xe s := by
  refine wpAny_call (codeAny_mono h fun r s' hq => ?_)
  cases r with
  | error e => exact tk e s' (L2.XE.of_call I (fun cls d H' h => h) hq)
  | ok fl =>
    cases fl with
    | ret u => exact I.after hq
    | next => exact False.elim hq
    | brk => exact False.elim hq
    | cont => exact False.elim hq
/-- the values of data -/
theorem TV.rx {r : R Val} {Q : VK} {W' : WQ} (h : TV S (RX S X) φ H r Q W') : TV S (RD0 S) φ H r Q W' := by
  cases r with
  | ok v M' => exact fun φ' H' x R K q => h φ' H' x R K (.d q.isD q)
  | exc e M' => exact h
  | err => exact h
theorem RDs.rs0 {base : Heap} {pn : List (Addr × PySem.Obj)} : ∀ {v : List Val} {x : List V}, RDs S φ H v x → RSs S base pn φ H v x
  | _, _, .nil => .nil
  | _, _, .cons r t => .cons (.d r.isD r) (RDs.rs0 t)
theorem RSs.append {base : Heap} {pn : List (Addr × PySem.Obj)} : ∀ {v w : List Val} {x y : List V}, RSs S base pn φ H v x → RSs S base pn φ H w y → RSs S base pn φ H (v ++ w) (x ++ y)
  | _, _, _, _, .nil, s => s
  | _, _, _, _, .cons r t, s => .cons r (RSs.append t s)
theorem runB_err {P : Env} {o : Oracle} {d : Fn} {us : List Val} {M : Mem} (h : us.length ≠ d.np) : runB P o d us M = .err := by
  unfold runB
  rw [decide_eq_false h]
theorem RAgs.length : ∀ {v : List Val} {x : List V}, RAgs S X σV φ H v x → v.length = x.length
  | _, _, .nil => rfl
  | _, _, .cons _ t => congrArg (· + 1) (RAgs.length t)
/-- a def is called with values that have come: the run of the small language tells -/
theorem call_fn (G : Good S k X) (RK : RunOk S k) (tk : Takes X W) {d : Fn} {f : Addr} {fd : FuncData} {N : List Str} {L : Bool} (C : CodeF S d f fd N L) (I : Inv X pins σV H s) {us : List Value} {vs : List V} {ws : List Val} {Q : VK} (rv : Vals vs us) (Re : Rel S φ M H) (ra : RSs S (hidX X s H) [] φ H ws vs)
    (h : TV S (RX S X) φ H (runD S k d (fill d ws) M) Q fun c d H' => W c d σV H') : wpAny (model X.prog X.w) X.A (call (.ref f) us) (EP X pins σV Q) X.xe s := by
  by_cases hl : (fill d ws).length = d.np
  · obtain ⟨h1, h2⟩ := fill_len hl
    have e1 := ra.length
    have e2 := rv.length
    obtain ⟨ds, zs, rz, rd, hb⟩ := C.binds (s := s) (us := us) (by rw [← G.K]; exact I.kIn) (by omega) (by omega)
    refine call_end tk I ?_
    have := RK.fn _ (goodB_hid G I) d f fd N L C X.A X.stack s H ⟨us, []⟩ (us ++ ds) (vs ++ zs) Q (fun c d H' => W c d σV H') φ M (fill d ws) (G.room.mono (by omega)) (env0_hid G I) hb (rv.append rz) Re ?_ h.rx
    · rw [G.prog, G.w]; exact this
    · unfold fill
      refine ra.append (RDs.rs0 ?_)
      have := rd φ H
      rw [show us.length = ws.length by omega] at this
      exact this
  · cases k with
    | zero => exact h.elim
    | succ k =>
      have h : TV S (RX S X) φ H (runB S.Pr.env (run S.Pr k) d (fill d ws) M) Q _ := h
      rw [runB_err hl] at h
      exact h.elim
theorem call_fnK (G : Good S k X) (RK : RunOk S k) (tk : Takes X W) {d : Fn} {f : Addr} {fd : FuncData} {N : List Str} {L : Bool} (C : CodeF S d f fd N L) (I : Inv X pins σV H s) {us : List Value} {vs : List V} {ws : List Val} {Q : VK} (rv : Vals vs us) (Re : Rel S φ M H) (ra : RSs S (hidX X s H) [] φ H ws vs) (hn : ws.length = d.np)
    (h : TV S (RX S X) φ H (runD S k d (fill d ws) M) Q fun c d H' => W c d σV H') : wpAny (model X.prog X.w) X.A (call (.ref f) [] ((fd.params.args.map (·.arg)).zip us)) (EP X pins σV Q) X.xe s := by
  have e1 := ra.length
  have e2 := rv.length
  have hf : fill d ws = ws := by
    unfold fill
    rw [hn, Nat.sub_self, Nat.sub_zero, List.drop_length, List.append_nil]
  rw [hf] at h
  refine call_end tk I ?_
  have := RK.fn _ (goodB_hid G I) d f fd N L C X.A X.stack s H ⟨[], (fd.params.args.map (·.arg)).zip us⟩ us vs Q (fun c d H' => W c d σV H') φ M ws (G.room.mono (by omega)) (env0_hid G I) (C.bindK (by rw [← G.K]; exact I.kIn) (by omega)) rv Re ra h.rx
  rw [G.prog, G.w]; exact this
theorem call_clo (G : Good S k X) (RK : RunOk S k) (tk : Takes X W) {ps : List Nat} {b : Ex} {σ : Sl} {f : Addr} (I : Inv X pins σV H s) (rc : RS S (hidX X s H) [] φ H (.clo ps b σ) (.ref f)) {us : List Value} {vs : List V} {ws : List Val} {Q : VK} (rv : Vals vs us) (Re : Rel S φ M H) (ra : RSs S (hidX X s H) [] φ H ws vs)
    (h : TV S (RX S X) φ H (run S.Pr k (.clo ps b σ) ws M) Q fun c d H' => W c d σV H') : wpAny (model X.prog X.w) X.A (call (.ref f) us) (EP X pins σV Q) X.xe s := by
  refine call_end tk I ?_
  have := RK.clo _ (goodB_hid G I) ps b σ f X.A X.stack s H us vs Q (fun c d H' => W c d σV H') φ M ws (G.room.mono (by omega)) (env0_hid G I) rc rv Re ra h.rx
  rw [G.prog, G.w]; exact this
theorem run_fn_eq {x : Nm} {ws : List Val} {M : Mem} {d : Fn} (e : S.Pr.fn x = some d) : run S.Pr k (.fn x) ws M = runD S k d (fill d ws) M := by
  cases k with
  | zero => rfl
  | succ k =>
    show (match S.Pr.fn x with | some d => runB S.Pr.env (run S.Pr k) d (fill d ws) M | none => .err) = _
    rw [e]; rfl
theorem run_fn_none {x : Nm} {ws : List Val} {M : Mem} (e : S.Pr.fn x = none) : run S.Pr k (.fn x) ws M = .err := by
  cases k with
  | zero => rfl
  | succ k =>
    show (match S.Pr.fn x with | some d => runB S.Pr.env (run S.Pr k) d (fill d ws) M | none => .err) = _
    rw [e]
theorem tAg_one {γ δ : Type} {RW : List Addr → Hp → γ → δ → Prop} {As : List Ag} {g : List Val → Mem → R γ} {σV : L2.St} {H : Hp} {Q : δ → Hp → Prop}
    (h : tE S X W RW (fun σ M => (evAs S.Pr.env (run S.Pr k) As σ M).bind g) σV H Q) :
    tAg S k X W As σV H fun xs H1 => ∃ φ M vs, Rel S φ M H1 ∧ RAgs S X σV φ H1 vs xs ∧ TV S RW φ H1 (g vs M) Q fun c d H' => W c d σV H' :=
  tE_mono (tE_bind (RV := RAgs S X σV) h) fun x H1 ⟨φ1, σ, v, M1, R1, s1, r1, h1⟩ => ⟨φ1, M1, v, R1, r1, h1⟩
/-- a value of a def at the call's function place, then the arguments -/
theorem callWith_any {pos : Pos} {f : Addr} {As : List Ag} {as : List Expr} {Q : Value → Shared → Prop} {Q' : List V → Hp → Prop} (G : Good S k X) (TF : TabF S) (hk : PySem.W.keepIn S.K (.ref f) = true) (ha : PAgs S k X W As as) (I : Inv X pins σV H s) (h : tAg S k X W As σV H Q')
    (hc : ∀ (us : List Value) (s2 : Shared) (vs : List V) (H2 : Hp), Inv X pins σV H2 s2 → Vals vs us → Q' vs H2 → wpAny (model X.prog X.w) X.A (call (.ref f) us) Q X.xe s2) :
    wpAny (model X.prog X.w) X.A (callWith pos (.ref f) [] (backTo pos (starEach as X.env)) (backToKw pos (keywordEach [] X.env))) Q X.xe s := by
  have pa := pa_ag G TF ha
  have hk : PySem.W.keepIn X.K (.ref f) = true := by rw [G.K]; exact hk
  cases as with
  | nil =>
    cases ha
    refine PySem.W.callWith_K0 I.kIn hk ?_
    obtain ⟨φ, σ, M, Re, sr, h⟩ := h
    have h : TV S (RAgs S X σV) φ H (evAs S.Pr.env (run S.Pr k) [] σ M) Q' _ := h
    rw [evAs] at h
    exact hc [] s [] H I .nil (TV.ok Re .nil h)
  | cons a as =>
    obtain ⟨hs, Bs, hb⟩ := pags_head ha
    exact PySem.W.callWith_K (h₀ := X.base) I.ok.mod.kin hk (thn (pa.run pos pins s σV H _ I h) fun us s2 ⟨vs, H2, I2, r, q⟩ => ⟨I2.kIn, hc us s2 vs H2 I2 r q⟩) hs (pags_plain hb)
theorem callWith_anyF {pos : Pos} {f : Addr} {As : List Ag} {as : List Expr} {Q : Value → Shared → Prop} {Q' : List V → Hp → Prop} (G : Good S k X) (TF : TabF S) (hf : PySem.W.FnAt f s.heap) (ha : PAgs S k X W As as) (I : Inv X pins σV H s) (h : tAg S k X W As σV H Q')
    (hc : ∀ (us : List Value) (s2 : Shared) (vs : List V) (H2 : Hp), Inv X pins σV H2 s2 → Vals vs us → Q' vs H2 → PySem.W.FnAt f s2.heap ∧ wpAny (model X.prog X.w) X.A (call (.ref f) us) Q X.xe s2) :
    wpAny (model X.prog X.w) X.A (callWith pos (.ref f) [] (backTo pos (starEach as X.env)) (backToKw pos (keywordEach [] X.env))) Q X.xe s := by
  have pa := pa_ag G TF ha
  cases as with
  | nil =>
    cases ha
    refine PySem.W.callWith_F0 hf ?_
    obtain ⟨φ, σ, M, Re, sr, h⟩ := h
    have h : TV S (RAgs S X σV) φ H (evAs S.Pr.env (run S.Pr k) [] σ M) Q' _ := h
    rw [evAs] at h
    exact (hc [] s [] H I .nil (TV.ok Re .nil h)).2
  | cons a as =>
    obtain ⟨hs, Bs, hb⟩ := pags_head ha
    exact PySem.W.callWith_F hf (thn (pa.run pos pins s σV H _ I h) fun us s2 ⟨vs, H2, I2, r, q⟩ => hc us s2 vs H2 I2 r q) hs (pags_plain hb)
end
end Mi
end
section
set_option Elab.async false
set_option linter.all false
set_option maxRecDepth 100000
/-! S16: calls as expressions. -/
namespace Mi
open PySem PySem.Spec PyProof.Rows
open L2 (V Hp HO SqL SqT RelV upd upd_same upd_ne ne_of ne_of_none Key Cx Inv PE PT PW PA PC TE TT TA VK Vis Takes WX XK Room OpR Dp DpAll thn TyX TyOf ClsV Vals EP TP PO CallR Env0 frs trk FnScope AP)
open L2 (cloFrom)
open LamX (ExtN Tabs TabB CodeO)
section
variable {S : Link} {k : Nat} {X : Cx} {W : WX} {pins : List (Addr × PySem.Obj)} {σV : L2.St} {H : Hp} {s : Shared} {φ : List Addr} {M : Mem}
theorem e_call (G : Good S k X) (TF : TabF S) (FF : FnF S) (RK : RunOk S k) (tk : Takes X W) {j : Nm} {x : Str} {As : List Ag} {as : List Expr} {p pos : Pos} (hj : gloOk S.T X.env.scope j x = true) (ha : PAgs S k X W As as) (hr : S.T.fnOk j = true) :
    PE X (.Call (.Name x p) as [] pos) (tEv S k X W (.call j As)) := by
  obtain ⟨h1, h2, h3⟩ := gloOk_of hj
  cases hd : S.Pr.fn j with
  | none => have hr := FF.ok j hr; rw [hd] at hr; cases hr
  | some d =>
    obtain ⟨y, f, fd, N, L, e1, e2, C, _⟩ := FF.fn j d hd
    rw [h1] at e1; cases e1
    refine ⟨fun pins s σV H Q I h => ?_⟩
    refine wpAny_Call_Name_kw (L2.ld_glob I h2 (by rw [G.mg]; exact e2) ?_ h3)
    have h := tAg_one (g := fun vs M => match cloXs vs with | true => run S.Pr k (.fn j) vs M | false => .err) (tE_cong h fun σ M => by rw [ev] <;> rfl)
    refine callWith_any G TF C.kp ha I h fun us s2 vs H2 I2 rv ⟨φ, M, ws, Re, ra, q⟩ => ?_
    cases hx : cloXs ws with
    | false => rw [hx] at q; exact q.elim
    | true =>
      rw [hx, run_fn_eq hd] at q
      exact call_fn G RK tk C I2 rv Re (ra.conv G I2 hx) q
theorem data_conv {base : Heap} {pn : List (Addr × PySem.Obj)} {base' : Heap} {pn' : List (Addr × PySem.Obj)} {vs : List Val} {xs : List V} (r : RSs S base pn φ H vs xs) (h : allD vs = true) : RSs S base' pn' φ H vs xs := (r.data h).rss h
/-! ### keywords -/
inductive PKs (S : Link) (k : Nat) (X : Cx) (W : WX) : List Ex → List Keyword → Prop
  | nil : PKs S k X W [] []
  | cons {A : Ex} {As : List Ex} {n : Str} {a : Expr} {kp : Pos} {ks : List Keyword} : PE X a (tEv S k X W A) → PKs S k X W As ks → PKs S k X W (A :: As) (⟨some n, a, kp⟩ :: ks)
theorem PK_imp {kws : List Keyword} {t u : TA} (h : L2.PK X kws t) (i : ∀ σ H Q, u σ H Q → t σ H Q) : L2.PK X kws u := ⟨fun pos pins s σ H Q I hu => h.run pos pins s σ H Q I (i σ H Q hu)⟩
theorem pk_ex (G : Good S k X) : ∀ {As : List Ex} {ks : List Keyword}, PKs S k X W As ks → L2.PK X ks (tAv S k X W As)
  | _, _, .nil => PK_imp L2.pk_nil fun σV H Q ⟨φ, σ, M, Re, sr, h⟩ => by
    have h : TV S (fun φ H vs xs => RSs S X.base X.pn φ H vs xs) φ H (evs S.Pr.env (run S.Pr k) [] σ M) Q _ := h
    rw [evs] at h
    exact TV.ok Re .nil h
  | _, _, .cons (A := A) (As := As) ha hr => by
    refine PK_imp (L2.pk_cons ha (pk_ex G hr)) fun σV H Q h => ?_
    refine tE_mono (tE_bind (RV := RX S X) (g := fun σ v M => (evs S.Pr.env (run S.Pr k) As σ M).bind fun vs M => .ok (v :: vs) M) (tE_cong h fun σ M => by rw [evs])) fun x H1 ⟨φ, σ, v, M, Re, sr, r, h1⟩ => ?_
    refine ⟨φ, σ, M, Re, sr, ?_⟩
    exact (TV.bind (RV := fun φ H vs xs => RSs S X.base X.pn φ H vs xs) h1).mono fun xs H2 ⟨φ2, vs, M2, R2, K2, r2, h2⟩ => TV.ok R2 (.cons (RS.mono K2 r) r2) h2
theorem pks_all {pos : Pos} {As : List Ex} {ks : List Keyword} (h : PKs S k X W As ks) : (backToKw pos (keywordEach ks X.env)).all (·.1.isSome) = true ∧ (backToKw pos (keywordEach ks X.env)).any (·.1.isNone) = false ∧ ((backToKw pos (keywordEach ks X.env)).filterMap (·.1)).map some = ks.map (·.arg) := by
  induction h with
  | nil => exact ⟨rfl, rfl, rfl⟩
  | cons _ _ ih =>
    obtain ⟨h1, h2, h3⟩ := ih
    refine ⟨h1, h2, ?_⟩
    show some _ :: List.map some (List.filterMap (fun x => x.fst) (backToKw pos (keywordEach _ X.env))) = some _ :: _
    rw [h3]
theorem pks_len {As : List Ex} {ks : List Keyword} (h : PKs S k X W As ks) : As.length = ks.length := by
  induction h with
  | nil => rfl
  | cons _ _ ih => exact congrArg (· + 1) ih
theorem map_some_inj {α : Type} : ∀ {l m : List α}, l.map some = m.map some → l = m
  | [], [], _ => rfl
  | a :: l, b :: m, h => by
    simp only [List.map_cons, List.cons.injEq, Option.some.injEq] at h
    rw [h.1, map_some_inj h.2]
  | [], _ :: _, h => by simp at h
  | _ :: _, [], h => by simp at h
theorem e_callK (G : Good S k X) (TF : TabF S) (FF : FnF S) (RK : RunOk S k) (tk : Takes X W) {j : Nm} {x : Str} {As : List Ex} {ks : List Keyword} {p pos : Pos} (hj : gloOk S.T X.env.scope j x = true) (ha : PKs S k X W As ks) (hk : ks.map (·.arg) = (S.T.pars j).map some) (hr : S.T.fnOk j = true) :
    PE X (.Call (.Name x p) [] ks pos) (tEv S k X W (.callK j As)) := by
  obtain ⟨h1, h2, h3⟩ := gloOk_of hj
  cases hd : S.Pr.fn j with
  | none => have hr := FF.ok j hr; rw [hd] at hr; cases hr
  | some d =>
    obtain ⟨y, f, fd, N, L, e1, e2, C, ep⟩ := FF.fn j d hd
    rw [h1] at e1; cases e1
    obtain ⟨a1, a2, a3⟩ := pks_all (pos := pos) ha
    have a4 : (backToKw pos (keywordEach ks X.env)).filterMap (·.1) = fd.params.args.map (·.arg) := map_some_inj (by rw [a3, hk, ep])
    refine ⟨fun pins s σV H Q I h => ?_⟩
    refine wpAny_Call_Name_kw (L2.ld_glob I h2 (by rw [G.mg]; exact e2) ?_ h3)
    have h := tA_len (g := fun vs M => nodata vs (run S.Pr k (.fn j) vs M)) (tE_cong h fun σ M => by rw [ev])
    refine PySem.W.callWith_KW0 (h₀ := X.base) I.ok.mod.kin (by rw [G.K]; exact C.kp) a1 (thn ((pk_ex G ha).run pos pins s σV H _ I h) fun us s2 ⟨vs, H2, I2, rv, hz, φ, M, ws, Re, ra, q⟩ => ⟨I2.kIn, ?_⟩) (by rw [a2]; rfl)
    obtain ⟨hx, q⟩ := nodata_ok q
    rw [run_fn_eq hd] at q
    rw [a4]
    have hn : ws.length = d.np := by
      have h1 := congrArg List.length hk
      rw [List.length_map, List.length_map, ep, List.length_map, C.np] at h1
      rw [ra.length, hz, pks_len ha, h1]
    exact call_fnK G RK tk C I2 rv Re (data_conv ra hx) hn q
/-! ### what a slot holds is called -/
theorem run_clo_lm {ps : List Nat} {b : Ex} {n : Nat} {base : Heap} {x : V} (r : RD S φ H (.lm n ps b) x) : ∃ f, x = .ref f ∧ RS S base [] φ H (.clo ps b (List.replicate n none)) (.ref f) := by
  cases r with
  | @lm n ps b N sc scope q a body pm ct f c' h1 h2 h3 h4 h5 h6 h7 =>
    subst h1
    refine ⟨f, rfl, .clo (N := N) (sc := sc) (fun _ => .non) h2 (by simp) h3 h5 h6 h7 (fun x y c e => by cases e) (fun x c e => by cases e) (fun y e => ?_) (fun i y c v _ e => ?_) fun i y v _ e => ?_⟩
    all_goals
      exfalso
      have := List.all_eq_true.mp h4 _ (look_names e)
      cases this
theorem clo_fn {ps : List Nat} {b : Ex} {σ : Sl} {base : Heap} {pn : List (Addr × PySem.Obj)} {f : Addr} {h : Heap} {P : PySem.Program} {w : World} (r : RS S base pn φ H (.clo ps b σ) (.ref f)) (hok : L2.HOk P w H h) : PySem.W.FnAt f h := by
  cases r with
  | d h _ => cases h
  | clo XX h1 h2 h3 h4 h5 h6 h7 h8 h9 h10 h11 => exact ⟨_, _, _, _, funO_at hok h5⟩
theorem RS.clo_ref {ps : List Nat} {b : Ex} {σ : Sl} {base : Heap} {pn : List (Addr × PySem.Obj)} {x : V} (r : RS S base pn φ H (.clo ps b σ) x) : ∃ f, x = .ref f := by
  cases r with
  | d h _ => cases h
  | clo XX h1 h2 h3 h4 h5 h6 h7 h8 h9 h10 h11 => exact ⟨_, rfl⟩
theorem e_app (G : Good S k X) (TF : TabF S) (FF : FnF S) (RK : RunOk S k) (tk : Takes X W) {i : Nat} {x : Str} {As : List Ag} {as : List Expr} {p pos : Pos} (hi : varOk X.N X.env.scope i x = true) (ha : PAgs S k X W As as) :
    PE X (.Call (.Name x p) as [] pos) (tEv S k X W (.app i As)) := by
  obtain ⟨h1, h2, h3, h4⟩ := varOk_of hi
  refine ⟨fun pins s σV H Q I ⟨φ, σ, M, Re, sr, h⟩ => ?_⟩
  have h : TV S (RX S X) φ H (ev S.Pr.env (run S.Pr k) (.app i As) σ M) Q _ := h
  rw [ev] at h
  split at h
  · rename_i v e
    obtain ⟨y, e2, r⟩ := sr.at_ i x v e h1 h2
    refine wpAny_Call_Name_kw (thn ((L2.pe_var (pos := p) h1 h2 h3 h4).run pins s σV H (fun v H1 => v = y ∧ H1 = H) I ⟨y, e2, rfl, rfl⟩) fun u s1 ⟨v1, H1, I1, r1, q1⟩ => ?_)
    obtain ⟨q1, q2⟩ := q1
    subst q1 q2
    split at h
    · rename_i j
      cases r.data rfl with
      | @glo _ sj f g1 g2 g3 =>
        obtain rfl : u = Value.ref f := r1
        cases hd : S.Pr.fn j with
        | none => have := FF.isf j g2; rw [hd] at this; cases this
        | some d =>
          obtain ⟨y', f', fd, N, L, e3, e4, C, _⟩ := FF.fn j d hd
          rw [g1] at e3; cases e3
          rw [g3] at e4; cases e4
          have h' : tAg S k X W As σV H1 fun xs H2 => ∃ φ M vs, Rel S φ M H2 ∧ RAgs S X σV φ H2 vs xs ∧ TV S (RX S X) φ H2 (match cloXs vs with | true => run S.Pr k (.fn j) vs M | false => .err) Q fun c d H' => W c d σV H' :=
            tAg_one (g := fun vs M => match cloXs vs with | true => run S.Pr k (.fn j) vs M | false => .err) ⟨φ, σ, M, Re, sr, h⟩
          refine callWith_any G TF C.kp ha I1 h' fun us s2 vs H2 I2 rv ⟨φ, M, ws, Re, ra, q⟩ => ?_
          cases hx : cloXs ws with
          | false => rw [hx] at q; exact q.elim
          | true =>
            rw [hx, run_fn_eq hd] at q
            exact call_fn G RK tk C I2 rv Re (ra.conv G I2 hx) q
    · rename_i ps b τ
      obtain ⟨f, rfl⟩ := r.clo_ref
      obtain rfl : u = Value.ref f := r1
      have h' : tAg S k X W As σV H1 fun xs H2 => ∃ φ M vs, Rel S φ M H2 ∧ (RAgs S X σV φ H2 vs xs ∧ RX S X φ H2 (.clo ps b τ) (.ref f)) ∧ TV S (RX S X) φ H2 (match cloXs vs with | true => run S.Pr k (.clo ps b τ) vs M | false => .err) Q fun c d H' => W c d σV H' := by
        refine ⟨φ, σ, M, Re, sr, ?_⟩
        exact (TV.bind (RV := RAgs S X σV) h).mono fun xs H2 ⟨φ2, vs, M2, R2, K2, r2, h2⟩ => ⟨φ2, M2, vs, R2, ⟨r2, RS.mono K2 r⟩, h2⟩
      refine callWith_anyF G TF (clo_fn r I1.hok) ha I1 h' fun us s2 vs H2 I2 rv ⟨φ, M, ws, Re, ⟨ra, rc⟩, q⟩ => ⟨clo_fn rc I2.hok, ?_⟩
      cases hx : cloXs ws with
      | false => rw [hx] at q; exact q.elim
      | true =>
        rw [hx] at q
        exact call_clo G RK tk I2 (RS.base (fun b o e => base_hid I2 e) (rc.pn rfl)) rv Re (ra.conv G I2 hx) q
    · rename_i n ps b
      obtain ⟨f, rfl, _⟩ := run_clo_lm (base := X.base) (r.data rfl)
      obtain rfl : u = Value.ref f := r1
      have h' : tAg S k X W As σV H1 fun xs H2 => ∃ φ M vs, Rel S φ M H2 ∧ (RAgs S X σV φ H2 vs xs ∧ RX S X φ H2 (.lm n ps b) (.ref f)) ∧ TV S (RX S X) φ H2 (match cloXs vs with | true => run S.Pr k (.clo ps b (List.replicate n none)) vs M | false => .err) Q fun c d H' => W c d σV H' := by
        refine ⟨φ, σ, M, Re, sr, ?_⟩
        exact (TV.bind (RV := RAgs S X σV) h).mono fun xs H2 ⟨φ2, vs, M2, R2, K2, r2, h2⟩ => ⟨φ2, M2, vs, R2, ⟨r2, RS.mono K2 r⟩, h2⟩
      have fn : ∀ {s2 : Shared} {H2 : Hp} {φ : List Addr}, Inv X pins σV H2 s2 → RX S X φ H2 (.lm n ps b) (.ref f) → PySem.W.FnAt f s2.heap := fun I2 rc => by
        obtain ⟨f', e, r'⟩ := run_clo_lm (base := X.base) (rc.data rfl)
        cases e
        exact clo_fn r' I2.hok
      refine callWith_anyF G TF (fn I1 r) ha I1 h' fun us s2 vs H2 I2 rv ⟨φ, M, ws, Re, ⟨ra, rc⟩, q⟩ => ⟨fn I2 rc, ?_⟩
      cases hx : cloXs ws with
      | false => rw [hx] at q; exact q.elim
      | true =>
        rw [hx] at q
        obtain ⟨f', e, r'⟩ := run_clo_lm (base := hidX X s2 H2) (rc.data rfl)
        cases e
        exact call_clo G RK tk I2 r' rv Re (ra.conv G I2 hx) q
    · exact h.elim
  · exact h.elim
end
end Mi
end
section
set_option Elab.async false
set_option linter.all false
set_option maxRecDepth 100000
/-! S17: lambdas as data; instances are made; methods. -/
namespace Mi
open PySem PySem.Spec PyProof.Rows
open L2 (V Hp HO SqL SqT RelV upd upd_same upd_ne ne_of ne_of_none Key Cx Inv PE PT PW PA PC TE TT TA VK Vis Takes WX XK Room OpR Dp DpAll thn TyX TyOf ClsV Vals EP TP PO CallR Env0 frs trk FnScope AP)
open L2 (cloFrom)
open LamX (ExtN Tabs TabB CodeO)
section
variable {S : Link} {k : Nat} {X : Cx} {W : WX} {pins : List (Addr × PySem.Obj)} {σV : L2.St} {H : Hp} {s : Shared} {φ : List Addr} {M : Mem}
theorem cloFrom_none {cells : List (Str × Addr)} : ∀ {names : List (Str × NameKind)} {acc : List (Str × Addr)}, (∀ y ∈ names, y.2 ≠ .free) → cloFrom cells names acc = acc
  | [], _, _ => rfl
  | (n, kd) :: r, acc, h => by
    unfold cloFrom
    have : (kd == NameKind.free) = false := by
      have := h (n, kd) List.mem_cons_self
      cases kd <;> first | rfl | exact (this rfl).elim
    rw [this]
    exact cloFrom_none fun y hy => h y (List.mem_cons_of_mem _ hy)
theorem e_lm (G : Good S k X) (TF : TabF S) (LO : LamOk S X) {n : Nat} {ps : List Nat} {b : Ex} {scope : Scope} {a : Arguments} {body : Expr} {pos : Pos} (hn : n = X.N.length) (hl : lamB X.N X.env.scope scope ps a = true) (hf : noFree scope = true) (hc : chk S.T false X.N scope b body = true) :
    PE X (.Lambda a body scope pos) (tEv S k X W (.lm n ps b)) := by
  refine PE_imp (pe_lm G TF LO hl) fun σV H Q ⟨φ, σ, M, Re, sr, h⟩ => ⟨φ, M, Re, fun f c' pm ct H1 R1 K1 e1 e2 => ?_⟩
  have h : TV S (RX S X) φ H (ev S.Pr.env (run S.Pr k) (.lm n ps b) σ M) Q _ := h
  rw [ev] at h
  have e0 : cloFrom X.env.cells scope.names [] = [] := cloFrom_none fun y hy z => by
    have := List.all_eq_true.mp hf y hy
    rw [z] at this
    cases this
  rw [e0] at e1
  exact h φ H1 (.ref f) R1 K1 (.d rfl (.lm hn G.nd hl hf hc e1 e2))

/-! ### an instance is made -/
theorem rel_made {C : Addr} {c : Nm} {sn : Str} (G : Good S k X) (Re : Rel S φ M H) (I : Inv X pins σV H s) (h0 : S.Pr.env.isCls c = true) (h1 : S.T.names[c]? = some sn) (h2 : S.mg sn = some (.ref C)) :
    Rel S (φ ++ [s.heap.objs.size + 1]) (M ++ [.ins c []]) (upd (upd H s.heap.objs.size (.own (s.heap.objs.size + 1))) (s.heap.objs.size + 1) (.ins C s.heap.objs.size [])) ∧
    Keep φ (φ ++ [s.heap.objs.size + 1]) H (upd (upd H s.heap.objs.size (.own (s.heap.objs.size + 1))) (s.heap.objs.size + 1) (.ins C s.heap.objs.size [])) := by
  have n1 : H s.heap.objs.size = none := I.hok.fresh (Nat.le_refl _)
  have n2 : upd H s.heap.objs.size (.own (s.heap.objs.size + 1)) (s.heap.objs.size + 1) = none := by
    rw [upd_ne (Nat.ne_of_gt (Nat.lt_succ_self _))]
    exact I.hok.fresh (Nat.le_succ _)
  exact ⟨(Re.new n1).add n2 (.ins h0 h1 h2 upd_same .nil), (keep_new n1).trans (keep_add n2)⟩
theorem e_make (G : Good S k X) (TF : TabF S) (FF : FnF S) (RK : RunOk S k) (tk : Takes X W) {c : Nm} {x : Str} {As : List Ex} {as : List Expr} {p pos : Pos} (hj : gloOk S.T X.env.scope c x = true) (ha : PEs S k X W As as) (hr : S.T.mkOk c = true) :
    PE X (.Call (.Name x p) as [] pos) (tEv S k X W (.make c As)) := by
  obtain ⟨h1, h2, h3⟩ := gloOk_of hj
  obtain ⟨m1, m2, m3⟩ := FF.mke c hr
  cases hd : S.Pr.mt c S.Pr.env.init with
  | none => rw [hd] at m1; cases m1
  | some d =>
    obtain ⟨sc, C, sm, f, fd, N, L, e1, e2, e3, e4, e5, CF⟩ := FF.mt c _ d hd
    rw [h1] at e1; cases e1
    rw [FF.ini] at e3; cases e3
    have MK := m3 x C f h1 e2 e4
    have MK : L2.Mk X.K C f := by rw [G.K]; exact MK
    refine ⟨fun pins s σV H Q I h => ?_⟩
    refine wpAny_Call_Name_kw (L2.ld_glob I h2 (by rw [G.mg]; exact e2) ?_ h3)
    have h := tA_one (g := fun vs M => nodata vs (match run S.Pr k (.mt c S.Pr.env.init) (Val.ref M.length :: vs) (M ++ [Ob.ins c []]) with
    | R.ok Val.non M1 => R.ok (Val.ref M.length) M1
    | R.ok _ _ => R.err
    | r => r)) (tE_cong h fun σ M => by rw [ev] <;> rfl)
    have key : ∀ (us : List Value) (s2 : Shared) (vs : List V) (H2 : Hp), Inv X pins σV H2 s2 → Vals vs us → (∃ φ M ws, Rel S φ M H2 ∧ RSs S X.base X.pn φ H2 ws vs ∧ TV S (RX S X) φ H2 (nodata ws (match run S.Pr k (.mt c S.Pr.env.init) (Val.ref M.length :: ws) (M ++ [Ob.ins c []]) with
    | R.ok Val.non M1 => R.ok (Val.ref M.length) M1
    | R.ok _ _ => R.err
    | r => r)) Q fun c d H' => W c d σV H') → wpAny (model X.prog X.w) X.A (call (.ref C) us) (EP X pins σV Q) X.xe s2 := by
      intro us s2 vs H2 I2 rv ⟨φ, M, ws, Re, ra, q⟩
      obtain ⟨hx, q⟩ := nodata_ok q
      obtain ⟨R3, K3⟩ := rel_made G Re I2 m2 h1 e2
      have I3 := L2.Inv.made (C := C) I2
      generalize hs3 : ({ s2 with heap := (s2.heap.push PySem.W.emptyDict).push (PySem.W.instObj C s2.heap.objs.size) } : Shared) = s3 at I3
      generalize hH3 : upd (upd H2 s2.heap.objs.size (.own (s2.heap.objs.size + 1))) (s2.heap.objs.size + 1) (.ins C s2.heap.objs.size []) = H3 at I3 R3 K3
      have ra3 : RSs S (hidX X s3 H3) [] (φ ++ [s2.heap.objs.size + 1]) H3 (.ref M.length :: ws) (.ref (s2.heap.objs.size + 1) :: vs) := by
        refine .cons (.d rfl (.ref ?_)) (data_conv (ra.mono K3) hx)
        rw [← Re.len, List.getElem?_append_right (Nat.le_refl _)]
        simp
      have hrun : run S.Pr k (.mt c S.Pr.env.init) (Val.ref M.length :: ws) (M ++ [Ob.ins c []]) = runD S k d (fill d (.ref M.length :: ws)) (M ++ [.ins c []]) := by
        cases k with
        | zero => rfl
        | succ k =>
          show (match S.Pr.mt c S.Pr.env.init with | some d => runB S.Pr.env (run S.Pr k) d (fill d (.ref M.length :: ws)) (M ++ [Ob.ins c []]) | none => .err) = _
          rw [hd]; rfl
      rw [hrun] at q
      by_cases hl : (fill d (.ref M.length :: ws)).length = d.np
      · obtain ⟨l1, l2⟩ := fill_len hl
        have a1 := ra3.length
        have a2 := rv.length
        simp only [List.length_cons] at a1 l1 l2
        obtain ⟨ds, zs, rz, rd, hb⟩ := CF.binds (s := s3) (us := .ref (s2.heap.objs.size + 1) :: us) (by rw [← G.K]; exact I3.kIn) (by simp only [List.length_cons]; omega) (by simp only [List.length_cons]; omega)
        have q' : TV S (RD0 S) (φ ++ [s2.heap.objs.size + 1]) H3 (runD S k d (fill d (.ref M.length :: ws)) (M ++ [.ins c []])) (fun v H' => v = .non ∧ Q (.ref (s2.heap.objs.size + 1)) H') (fun c d H' => W c d σV H') := by
          cases e : runD S k d (fill d (.ref M.length :: ws)) (M ++ [.ins c []]) with
          | ok v M1 =>
            rw [e] at q
            cases v <;> first | exact q.elim | skip
            intro φ' H' x R' K' r'
            refine ⟨(RS.d (base := X.base) (pn := X.pn) rfl r').non_, q φ' H' _ R' (K3.trans K') (.d rfl (.ref (K'.get ?_)))⟩
            rw [← Re.len, List.getElem?_append_right (Nat.le_refl _)]
            simp
          | exc e' M1 => rw [e] at q; exact fun φ' H' C s d ys R' K' => q φ' H' C s d ys R' (K3.trans K')
          | err => rw [e] at q; exact q.elim
        have hrm := G.room.make C us []
        have hrm : Room (2 * k) (X.A.under (.builtin "type.__call__" ⟨.ref C :: us, []⟩)) := hrm
        have fin := RK.fn _ (goodB_hid G I3) d f fd N L CF (X.A.under (.builtin "type.__call__" ⟨.ref C :: us, []⟩)) X.stack s3 H3 ⟨.ref (s2.heap.objs.size + 1) :: us, []⟩ (.ref (s2.heap.objs.size + 1) :: us ++ ds) (.ref (s2.heap.objs.size + 1) :: vs ++ zs) _ _ _ _ _ hrm ((env0_hid G I3).make C us []) hb (L2.Vals.append (.cons rfl rv) rz) R3 (by
          unfold fill
          refine ra3.append (RDs.rs0 ?_)
          have := rd (φ ++ [s2.heap.objs.size + 1]) H3
          rw [show (Value.ref (s2.heap.objs.size + 1) :: us).length = (Val.ref M.length :: ws).length by simp only [List.length_cons]; omega] at this
          exact this) q'
        rw [← G.prog, ← G.w, ← hs3] at fin
        refine wpAny_call (L2.make_map (f := f) I2.kIn MK.makes MK.init (beq_iff_eq.mp MK.fn) (codeAny_mono fin fun r s' hq => ?_))
        rw [hs3] at hq
        cases r with
        | error e => exact tk e s' (L2.XE.of_call I3 (fun cls d H' h => h) hq)
        | ok fl =>
          cases fl with
          | ret u =>
            obtain ⟨v, H', I4, rv, ev, q3⟩ := I3.after hq
            subst ev
            exact ⟨rv, ⟨V.ref (s2.heap.objs.size + 1), H', I4, rfl, q3⟩⟩
          | next => exact False.elim hq
          | brk => exact False.elim hq
          | cont => exact False.elim hq
      · cases k with
        | zero => exact q.elim
        | succ k =>
          have e : runD S (k + 1) d (fill d (.ref M.length :: ws)) (M ++ [.ins c []]) = .err := runB_err hl
          rw [e] at q
          exact q.elim
    cases ha with
    | nil =>
      refine PySem.W.callWith_K0 I.kIn MK.kp ?_
      obtain ⟨φ, σ, M, Re, sr, h⟩ := h
      have h : TV S _ φ H (evs S.Pr.env (run S.Pr k) [] σ M) _ _ := h
      rw [evs] at h
      exact key [] s [] H I .nil (TV.ok Re .nil h)
    | cons g1 g2 g3 g4 =>
      exact PySem.W.callWith_K (h₀ := X.base) I.ok.mod.kin MK.kp (thn ((pa_ex G (.cons g1 g2 g3 g4)).run pos pins s σV H _ I h) fun us s2 ⟨vs, H2, I2, r, q⟩ => ⟨I2.kIn, key us s2 vs H2 I2 r q⟩) g3 (pes_plain g4)
end
end Mi
end
section
set_option Elab.async false
set_option linter.all false
set_option maxRecDepth 100000
/-! S18: methods of own classes. -/
namespace Mi
open PySem PySem.Spec PyProof.Rows
open L2 (V Hp HO SqL SqT RelV upd upd_same upd_ne ne_of ne_of_none Key Cx Inv PE PT PW PA PC TE TT TA VK Vis Takes WX XK Room OpR Dp DpAll thn TyX TyOf ClsV Vals EP TP PO CallR Env0 frs trk FnScope AP)
section
variable {S : Link} {k : Nat} {X : Cx} {W : WX} {pins : List (Addr × PySem.Obj)} {σV : L2.St} {H : Hp} {s : Shared} {φ : List Addr} {M : Mem}
theorem meth_eq {o : Expr} {m : Str} {apos pos : Pos} {args : List Expr} (hb : attributeBase o m X.env (eval o X.env) = eval o X.env) (hp : (backTo pos (starEach args X.env)).any (·.1) = false) (hz : args.length < 20) (hl : (apos.endLine == pos.line) = true) :
    eval (.Call (.Attribute o m apos) args [] pos) X.env = (do
      let ov ← eval o X.env
      standAt apos.atName
      let (f, first) ← holding [ov] (getMethod ov m (do return (← importBound o X.env).getD true))
      callWith pos f first (backTo pos (starEach args X.env)) (backToKw pos (keywordEach [] X.env))) := by
  have hform : methodCallForm (args.length + ([] : List Keyword).length) (backTo pos (starEach args X.env)) (backToKw pos (keywordEach [] X.env)) = true := by
    have := few_of (X := X) (pos := pos) hp hz
    exact this
  have hpos : methodCallPos true o X.env apos pos = pure pos := by unfold methodCallPos; simp [hl]
  rw [PySem.arm_eval_Call, hb]
  unfold methodCall
  rw [hform, hpos]
  unfold calleeOf
  simp only [if_true, pure_bind]
theorem e_meth (G : Good S k X) (F : Facts S) (FF : FnF S) (RK : RunOk S k) (tk : Takes X W) {A : Ex} {m : Nm} {n : Str} {As : List Ex} {a : Expr} {as : List Expr} {ap pos : Pos} (hm : S.T.names[m]? = some n) (hl : (ap.endLine == pos.line) = true) (hb : noSup a = true) (hz : as.length < 20) (he : PE X a (tEv S k X W A)) (ha : PEs S k X W As as) :
    PE X (.Call (.Attribute a n ap) as [] pos) (tEv S k X W (.meth A m As)) := by
  refine ⟨fun pins s σV H Q I h => ?_⟩
  have h := tE_bind (RV := RX S X) (g := fun σ x M => match x with
    | .ref n => match M[n]? with
      | some (.ins c fs) => match (fs.lookup m).isNone && S.Pr.env.isMt c m with
        | true => (evs S.Pr.env (run S.Pr k) As σ M).bind fun vs M => nodata vs (run S.Pr k (.mt c m) (.ref n :: vs) M)
        | false => R.err
      | _ => R.err
    | _ => R.err) (tE_cong h fun σ M => by rw [ev] <;> rfl)
  refine PySem.W.methodCall_KW (pl := (do return (← importBound a X.env).getD true)) (thn (he.run pins s σV H _ I h) fun u s1 ⟨x, H1, I1, rx, φ, σ, v, M, Re, sr, r, q⟩ => ?_) (meth_eq (base_of hb) (pes_plain ha) hz hl)
  split at q
  · rename_i i
    split at q
    · rename_i c fs e
      split at q
      · rename_i hc
        obtain ⟨c1, c2⟩ := Bool.and_eq_true_iff.mp hc
        have c1 : fs.lookup m = none := by simpa using c1
        cases hd : S.Pr.mt c m with
        | none => have := FF.ism c m c2; rw [hd] at this; cases this
        | some d =>
          obtain ⟨sc, C, sm, f, fd, N, L, e1, e2, e3, e4, e5, CF⟩ := FF.mt c m d hd
          rw [hm] at e3; cases e3
          obtain ⟨p, rfl, hp⟩ := r.ref_
          obtain rfl : u = Value.ref p := rx
          obtain ⟨s', C', dx, ys, i0, f1, f2, f3, f4⟩ := Re.ins hp e
          rw [e1] at f1; cases f1
          rw [e2] at f2; cases f2
          refine L2.getmeth_ok I1 f3 (by rw [G.K]; exact e5) (by rw [G.K]; exact e4) (f4.none G.names hm c1) ?_
          have key : ∀ (us : List Value) (s2 : Shared) (vs : List V) (H2 : Hp), Inv X pins σV H2 s2 → Vals vs us → (∃ φ M ws, Rel S φ M H2 ∧ (RSs S X.base X.pn φ H2 ws vs ∧ φ[i]? = some p) ∧ TV S (RX S X) φ H2 (nodata ws (run S.Pr k (.mt c m) (.ref i :: ws) M)) Q fun c d H' => W c d σV H') →
              wpAny (model X.prog X.w) X.A (call (.ref f) (.ref p :: us)) (EP X pins σV Q) X.xe s2 := by
            intro us s2 vs H2 I2 rv ⟨φ, M, ws, Re, ⟨ra, hp⟩, q⟩
            obtain ⟨hx, q⟩ := nodata_ok q
            have hrun : run S.Pr k (.mt c m) (.ref i :: ws) M = runD S k d (fill d (.ref i :: ws)) M := by
              cases k with
              | zero => rfl
              | succ k =>
                show (match S.Pr.mt c m with | some d => runB S.Pr.env (run S.Pr k) d (fill d (.ref i :: ws)) M | none => .err) = _
                rw [hd]; rfl
            rw [hrun] at q
            exact call_fn G RK tk CF I2 (us := .ref p :: us) (vs := .ref p :: vs) (.cons rfl rv) Re (.cons (.d rfl (.ref hp)) (data_conv ra hx)) q
          have h2 : tAv S k X W As σV H1 fun xs H2 => ∃ φ M ws, Rel S φ M H2 ∧ (RSs S X.base X.pn φ H2 ws xs ∧ φ[i]? = some p) ∧ TV S (RX S X) φ H2 (nodata ws (run S.Pr k (.mt c m) (.ref i :: ws) M)) Q fun c d H' => W c d σV H' := by
            refine ⟨φ, σ, M, Re, sr, ?_⟩
            exact (TV.bind (RV := fun φ H vs xs => RSs S X.base X.pn φ H vs xs) q).mono fun xs H2 ⟨φ2, vs, M2, R2, K2, r2, h2⟩ => ⟨φ2, M2, vs, R2, ⟨r2, K2.get hp⟩, h2⟩
          cases ha with
          | nil =>
            refine PySem.W.callWith_K0 (first := [.ref p]) I1.kIn (by rw [G.K]; exact CF.kp) ?_
            obtain ⟨φ, σ, M, Re, sr, h⟩ := h2
            have h : TV S _ φ H1 (evs S.Pr.env (run S.Pr k) [] σ M) _ _ := h
            rw [evs] at h
            exact key [] s1 [] H1 I1 .nil (TV.ok Re .nil h)
          | cons g1 g2 g3 g4 =>
            exact PySem.W.callWith_K (first := [.ref p]) (h₀ := X.base) I1.ok.mod.kin (by rw [G.K]; exact CF.kp) (thn ((pa_ex G (.cons g1 g2 g3 g4)).run pos pins s1 σV H1 _ I1 h2) fun us s2 ⟨vs, H2, I2, r, q⟩ => ⟨I2.kIn, key us s2 vs H2 I2 r q⟩) g3 (pes_plain g4)
      · exact q.elim
    · exact q.elim
  · exact q.elim
end
end Mi
end
section
set_option Elab.async false
set_option linter.all false
set_option maxRecDepth 100000
/-! S19: what is walked. -/
namespace Mi
open PySem PySem.Spec PyProof.Rows
open L2 (V Hp HO SqL SqT RelV upd upd_same upd_ne ne_of ne_of_none Key Cx Inv PE PT PW PA PC TE TT TA VK Vis Takes WX XK Room OpR Dp DpAll thn TyX TyOf ClsV Vals EP TP PO CallR Env0 frs trk FnScope AP PI TI PIE Itl Itt Itr Its Ite Itz)
section
variable {S : Link} {k : Nat} {X : Cx} {W : WX} {pins : List (Addr × PySem.Obj)} {σV : L2.St} {H : Hp} {s : Shared} {φ : List Addr} {M : Mem}
/-- a list that is walked, where it stands -/
inductive LRel (S : Link) (φ : List Addr) (H : Hp) : It → Addr → Prop
  | ls {n : Nat} {a : Addr} : φ[n]? = some a → LRel S φ H (.ls n) a
  | rl {vs : List Val} {xs : List V} {a : Addr} : ((∃ o, H a = some (.frz o (.lst xs))) ∨ SqL S.K (fun _ => none) a xs) → RDs S φ H vs xs → LRel S φ H (.sq vs) a
inductive IRel (S : Link) (φ : List Addr) (H : Hp) : It → L2.It → Prop
  | ls {I : It} {a : Addr} : LRel S φ H I a → IRel S φ H I (Itl S.K a)
  | tup {vs : List Val} {xs : List V} {a : Addr} : SqT S.K H a xs → RDs S φ H vs xs → IRel S φ H (.sq vs) (Itt S.K a)
  | str (z : Str) : IRel S φ H (.sq (z.cps.toList.map fun c => .str ⟨#[c]⟩)) (Its z)
  | rng (lo : Int) (n : Nat) : IRel S φ H (.rng lo 1 n) (Itr lo n)
  | en {I : It} {a : Addr} : LRel S φ H I a → IRel S φ H (.enum I) (Ite S.K a)
  | zip {I J : It} {a b : Addr} : LRel S φ H I a → LRel S φ H J b → IRel S φ H (.zip I J) (Itz S.K a b)
  | zipT {vs ws : List Val} {xs ys : List V} {a b : Addr} : SqT S.K H a xs → RDs S φ H vs xs → SqT S.K H b ys → RDs S φ H ws ys → IRel S φ H (.zip (.sq vs) (.sq ws)) (RZ.ItzT S.K a b)
theorem LRel.mono {φ' : List Addr} {H' : Hp} (K : Keep φ φ' H H') {I : It} {a : Addr} (r : LRel S φ H I a) : LRel S φ' H' I a := by
  cases r with
  | ls h => exact .ls (K.get h)
  | rl h q => exact .rl (h.imp (fun ⟨o, h⟩ => ⟨o, K.imm _ _ h trivial⟩) id) (q.mono K)
theorem IRel.mono {φ' : List Addr} {H' : Hp} (K : Keep φ φ' H H') {I : It} {J : L2.It} (r : IRel S φ H I J) : IRel S φ' H' I J := by
  cases r with
  | ls h => exact .ls (h.mono K)
  | tup h q => exact .tup (K.sqT h) (q.mono K)
  | str z => exact .str z
  | rng lo n => exact .rng lo n
  | en h => exact .en (h.mono K)
  | zip h q => exact .zip (h.mono K) (q.mono K)
  | zipT h1 h2 h3 h4 => exact .zipT (K.sqT h1) (h2.mono K) (K.sqT h3) (h4.mono K)
theorem LRel.turn (Re : Rel S φ M H) {I : It} {a : Addr} (r : LRel S φ H I a) {i : Nat} {o : Option Val} (h : I.item M i = some o) : ∃ xs, SqL S.K H a xs ∧ (o = none → xs.length ≤ i) ∧ ∀ v, o = some v → ∃ x, xs[i]? = some x ∧ RD S φ H v x := by
  cases r with
  | @ls n a hn =>
    have h : (match lsOf M n with | some xs => some xs[i]? | none => none) = some o := h
    split at h
    · rename_i vs e
      obtain ⟨xs, hx, q⟩ := Re.lst hn (lsOf_lst e)
      cases h
      exact ⟨xs, .of hx, fun h => by rw [← q.length]; exact List.getElem?_eq_none_iff.mp h, fun v h => q.get h⟩
    · cases h
  | @rl vs xs a hq q =>
    have h : some vs[i]? = some o := h
    cases h
    refine ⟨xs, ?_, fun h => by rw [← q.length]; exact List.getElem?_eq_none_iff.mp h, fun v h => q.get h⟩
    rcases hq with ⟨o, h⟩ | h
    · exact .inl (.inr ⟨_, h⟩)
    · rcases h with (h | ⟨o, h⟩) | h
      · cases h
      · cases h
      · exact .inr h
/-- a turn of a walk -/
theorem IRel.turn (Re : Rel S φ M H) {I : It} {J : L2.It} (r : IRel S φ H I J) {i : Nat} {o : Option Val} (h : I.item M i = some o) :
    (o = none → J.stop i H) ∧ ∀ v, o = some v → J.go i H ∧ ∀ x H', J.yld i H x H' → Rel S φ M H' ∧ Keep φ φ H H' ∧ RD S φ H' v x := by
  cases r with
  | ls r =>
    obtain ⟨xs, hq, h1, h2⟩ := r.turn Re h
    refine ⟨fun e => ⟨xs, hq, h1 e⟩, fun v e => ?_⟩
    obtain ⟨x, hx, rx⟩ := h2 v e
    refine ⟨⟨xs, x, hq, hx⟩, fun y H' ⟨e1, e2⟩ => ?_⟩
    subst e1
    have := e2 xs hq
    rw [hx] at this; cases this
    exact ⟨Re, .refl _ _, rx⟩
  | @tup vs xs a hq q =>
    have h : some vs[i]? = some o := h
    cases h
    refine ⟨fun e => ⟨xs, hq, by rw [← q.length]; exact List.getElem?_eq_none_iff.mp e⟩, fun v e => ?_⟩
    obtain ⟨x, hx, rx⟩ := q.get e
    refine ⟨⟨xs, x, hq, hx⟩, fun y H' ⟨e1, e2⟩ => ?_⟩
    subst e1
    have := e2 xs hq
    rw [hx] at this; cases this
    exact ⟨Re, .refl _ _, rx⟩
  | str z =>
    have h : some (z.cps.toList.map fun c => Val.str ⟨#[c]⟩)[i]? = some o := h
    cases h
    refine ⟨fun e => ?_, fun v e => ?_⟩
    · rw [List.getElem?_eq_none_iff, List.length_map, Array.length_toList] at e
      exact e
    · rw [List.getElem?_map, Option.map_eq_some_iff] at e
      obtain ⟨c, hc, rfl⟩ := e
      rw [Array.getElem?_toList] at hc
      refine ⟨(Array.getElem?_eq_some_iff.mp hc).1, fun y H' ⟨e1, c', e2, e3⟩ => ?_⟩
      subst e1 e3
      rw [hc] at e2; cases e2
      exact ⟨Re, .refl _ _, .str _⟩
  | rng lo n =>
    have h : (match decide (i < n) with | true => some (some (Val.int (lo + i * 1))) | false => some none) = some o := h
    by_cases hi : i < n
    · rw [decide_eq_true hi] at h
      cases h
      refine ⟨fun e => (by cases e), fun v e => ?_⟩
      cases e
      refine ⟨hi, fun y H' ⟨e1, e2⟩ => ?_⟩
      subst e1 e2
      rw [Int.mul_one]
      exact ⟨Re, .refl _ _, .int _⟩
    · rw [decide_eq_false hi] at h
      cases h
      exact ⟨fun _ => Nat.le_of_not_lt hi, fun v e => by cases e⟩
  | @en I a r =>
    have h : (match I.item M i with | some (some v) => some (some (Val.tup [.int i, v])) | some none => some none | none => none) = some o := h
    split at h
    · rename_i v e
      cases h
      obtain ⟨xs, hq, h1, h2⟩ := r.turn Re e
      obtain ⟨x, hx, rx⟩ := h2 v rfl
      refine ⟨fun e => (nomatch e), fun v' e' => ?_⟩
      cases e'
      refine ⟨⟨xs, x, hq, hx⟩, fun y H' ⟨T, x', e1, e2, e3, e4⟩ => ?_⟩
      subst e1 e3
      have := e4 xs hq
      rw [hx] at this; cases this
      have K : Keep φ φ H (upd H T (.tup [.int (i : Nat), x])) := keep_new e2
      exact ⟨Re.new e2, K, .tup (.inl (.inl upd_same)) (.cons (.int _) (.cons (rx.mono K) .nil))⟩
    · rename_i e
      cases h
      obtain ⟨xs, hq, h1, h2⟩ := r.turn Re e
      exact ⟨fun _ => ⟨xs, hq, h1 rfl⟩, fun v e => by cases e⟩
    · cases h
  | @zip I J a b r1 r2 =>
    have h : (match I.item M i with
    | none => none
    | some ov => match J.item M i with
      | none => none
      | some ow => match ov with
        | none => some none
        | some v => match ow with
          | none => some none
          | some w => some (some (Val.tup [v, w]))) = some o := h
    split at h
    · cases h
    · rename_i ov e1
      split at h
      · cases h
      · rename_i ow e2
        obtain ⟨xs, hq, h1, h2⟩ := r1.turn Re e1
        obtain ⟨ys, hq', h1', h2'⟩ := r2.turn Re e2
        split at h
        · cases h
          exact ⟨fun _ => ⟨xs, ys, hq, hq', .inl (h1 rfl)⟩, fun v e => by cases e⟩
        · rename_i v
          split at h
          · cases h
            exact ⟨fun _ => ⟨xs, ys, hq, hq', .inr (h1' rfl)⟩, fun v e => by cases e⟩
          · rename_i w
            cases h
            obtain ⟨x, hx, rx⟩ := h2 v rfl
            obtain ⟨y, hy, ry⟩ := h2' w rfl
            refine ⟨fun e => (nomatch e), fun v' e' => ?_⟩
            cases e'
            refine ⟨⟨xs, ys, x, y, hq, hq', hx, hy⟩, fun z H' ⟨T, x', y', f1, f2, f3, f4, f5⟩ => ?_⟩
            subst f1 f3
            have := f4 xs hq
            rw [hx] at this; cases this
            have := f5 ys hq'
            rw [hy] at this; cases this
            have K : Keep φ φ H (upd H T (.tup [x, y])) := keep_new f2
            exact ⟨Re.new f2, K, .tup (.inl (.inl upd_same)) (.cons (rx.mono K) (.cons (ry.mono K) .nil))⟩
  | @zipT vs ws xs ys a b hq q1 hq' q2 =>
    have h : (match vs[i]? with
        | none => some none
        | some v => match ws[i]? with
          | none => some none
          | some w => some (some (Val.tup [v, w]))) = some o := h
    split at h
    · rename_i e
      cases h
      exact ⟨fun _ => ⟨xs, ys, hq, hq', .inl (by rw [← q1.length]; exact List.getElem?_eq_none_iff.mp e)⟩, fun v e => by cases e⟩
    · rename_i v e1
      split at h
      · rename_i e
        cases h
        exact ⟨fun _ => ⟨xs, ys, hq, hq', .inr (by rw [← q2.length]; exact List.getElem?_eq_none_iff.mp e)⟩, fun v e => by cases e⟩
      · rename_i w e2
        cases h
        obtain ⟨x, hx, rx⟩ := q1.get e1
        obtain ⟨y, hy, ry⟩ := q2.get e2
        refine ⟨fun e => (nomatch e), fun v' e' => ?_⟩
        cases e'
        refine ⟨⟨xs, ys, x, y, hq, hq', hx, hy⟩, fun z H' ⟨T, x', y', f1, f2, f3, f4, f5⟩ => ?_⟩
        subst f1 f3
        have := f4 xs hq
        rw [hx] at this; cases this
        have := f5 ys hq'
        rw [hy] at this; cases this
        have K : Keep φ φ H (upd H T (.tup [x, y])) := keep_new f2
        exact ⟨Re.new f2, K, .tup (.inl (.inl upd_same)) (.cons (rx.mono K) (.cons (ry.mono K) .nil))⟩
end
end Mi
end
section
set_option Elab.async false
set_option linter.all false
set_option maxRecDepth 100000
/-! S20: iterables. -/
namespace Mi
open PySem PySem.Spec PyProof.Rows
open L2 (V Hp HO SqL SqT RelV upd upd_same upd_ne ne_of ne_of_none Key Cx Inv PE PT PW PA PC TE TT TA VK Vis Takes WX XK Room OpR Dp DpAll thn TyX TyOf ClsV Vals EP TP PO CallR Env0 frs trk FnScope AP PI TI PIE Itl Itt Itr Its Ite Itz)
section
variable {S : Link} {k : Nat} {X : Cx} {W : WX} {pins : List (Addr × PySem.Obj)} {σV : L2.St} {H : Hp} {s : Shared} {φ : List Addr} {M : Mem}
abbrev tIr (S : Link) (k : Nat) (X : Cx) (W : WX) (A : Ir) : TI := tE S X W (fun φ H I J => IRel S φ H I J) (fun σ M => evIr S.Pr.env (run S.Pr k) A σ M)
theorem PI_imp {tg e : Expr} {t u : TI} (h : PI X tg e t) (i : ∀ σ H Q, u σ H Q → t σ H Q) : PI X tg e u := ⟨fun pins s σ H Q I hu => h.run pins s σ H Q I (i σ H Q hu)⟩
/-- a list, a tuple, a str -/
def iVal (K : PySem.W.Frag) (te : TE) : TI := fun σ H R => te σ H fun x H1 => (∃ a, x = .ref a ∧ (∃ xs, SqL K H1 a xs) ∧ R (Itl K a) H1) ∨ (∃ a, x = .ref a ∧ (∃ xs, SqT K H1 a xs) ∧ R (Itt K a) H1) ∨ ∃ z, x = .str z ∧ R (Its z) H1
theorem pi_val {tg e : Expr} {te : TE} (he : PE X e te) : PI X tg e (iVal X.K te) := by
  refine ⟨fun pins s σ H R I h => ?_⟩
  refine thn (he.run pins s σ H _ I h) fun v s1 ⟨x, H1, I1, r1, q1⟩ => ?_
  rcases q1 with ⟨a, e, ⟨xs, hq⟩, q⟩ | ⟨a, e, ⟨xs, hq⟩, q⟩ | ⟨z, e, q⟩
  · subst e
    cases r1
    obtain ⟨its, rv, p, hz⟩ := I1.list hq
    refine wpAny_pyIter_list p.isList ?_
    refine ⟨s1.heap.objs.size, [s1.heap.objs.size], _, _, H1, rfl, I1.kept (t' := s1.toks) fun b o e => Heap.get?_push_of_some _ e, L2.turn_list a _, ⟨_, Heap.get?_push_size _ rfl, rfl, rfl⟩, fun b hb => ?_, q⟩
    have e : b = s1.heap.objs.size := by simpa using hb
    subst e
    exact I1.fpOk (Nat.le_refl _) (I1.hok.fresh (Nat.le_refl _))
  · subst e
    cases r1
    obtain ⟨its, rv, p, hz⟩ := I1.tuple hq
    refine wpAny_pyIter_tuple (show s1.heap.IsTuple a its.toArray from p) ?_
    refine ⟨s1.heap.objs.size, [s1.heap.objs.size], _, _, H1, rfl, I1.kept (t' := s1.toks) fun b o e => Heap.get?_push_of_some _ e, L2.turn_tuple a _, ⟨_, Heap.get?_push_size _ rfl, rfl, rfl⟩, fun b hb => ?_, q⟩
    have e : b = s1.heap.objs.size := by simpa using hb
    subst e
    exact I1.fpOk (Nat.le_refl _) (I1.hok.fresh (Nat.le_refl _))
  · subst e
    obtain ⟨t, rfl⟩ := r1
    cases ha : z.cps.all (· < 128)
    · exact wpAny_pyIter_wide ha (L2.pi_one (tk := s1.toks) I1 _ (L2.turn_str _ z t "str_iterator" (.inr rfl)) ⟨_, Heap.get?_push_size _ rfl, rfl, rfl⟩ q)
    · exact wpAny_pyIter_ascii ha (L2.pi_one (tk := s1.toks) I1 _ (L2.turn_str _ z t "str_ascii_iterator" (.inl rfl)) ⟨_, Heap.get?_push_size _ rfl, rfl, rfl⟩ q)
theorem LRel.sq (Re : Rel S φ M H) {v : Val} {x : V} {I : It} (r : RX S X φ H v x) (e : lsIt M v = some I) : ∃ a xs, x = .ref a ∧ SqL S.K H a xs ∧ LRel S φ H I a := by
  unfold lsIt at e
  split at e
  · cases e
    obtain ⟨a, xs, rfl, h1, h2, h3⟩ := r.rl_
    exact ⟨a, xs, rfl, h1, .rl h3 h2⟩
  · split at e
    · rename_i e1
      cases e
      obtain ⟨a, rfl, hn⟩ := r.ref_
      obtain ⟨xs, hx, _⟩ := Re.lst hn (lsOf_lst e1)
      exact ⟨a, xs, rfl, .of hx, .ls hn⟩
    · cases e
  · cases e
theorem i_val (G : Good S k X) {A : Ex} {a tg : Expr} (ha : PE X a (tEv S k X W A)) : PI X tg a (tIr S k X W (.val A)) := by
  refine PI_imp (pi_val ha) fun σV H R h => ?_
  refine tE_mono (tE_one (g := fun v M => okO M (itOf M v)) (tE_cong h fun σ M => by rw [evIr])) fun x H1 ⟨φ, M, v, Re, r, h1⟩ => ?_
  cases e : itOf M v with
  | none => rw [e] at h1; exact h1.elim
  | some I =>
    rw [e] at h1
    rw [G.K]
    unfold itOf at e
    split at e
    · cases e
      obtain ⟨a, xs, rfl, hx, q⟩ := r.tup_
      exact .inr (.inl ⟨a, rfl, ⟨xs, hx⟩, TV.ok Re (.tup hx q) h1⟩)
    · cases e
      obtain ⟨a, xs, rfl, hx, q, h3⟩ := r.rl_
      exact .inl ⟨a, rfl, ⟨xs, hx⟩, TV.ok Re (.ls (.rl h3 q)) h1⟩
    · split at e
      · rename_i e1
        cases e
        obtain ⟨a, rfl, hn⟩ := r.ref_
        obtain ⟨xs, hx, _⟩ := Re.lst hn (lsOf_lst e1)
        exact .inl ⟨a, rfl, ⟨xs, .of hx⟩, TV.ok Re (.ls (.ls hn)) h1⟩
      · cases e
    · split at e
      · cases e
        exact .inr (.inr ⟨_, r.str_, TV.ok Re (.str _) h1⟩)
      · cases e
    · cases e
theorem i_enum (G : Good S k X) {A : Ex} {a : Expr} {f : Str} {p pos tpos : Pos} {elts : List Expr} {kk : Nat} (hf : bltOk S.T X.env.scope f "enumerate" = true) (hs : ∀ es, starEach (a :: es) X.env = (false, eval a X.env) :: starEach es X.env) (ha : PE X a (tEv S k X W A)) :
    PI X (.Tuple elts kk tpos) (.Call (.Name f p) [a] [] pos) (tIr S k X W (.enum A)) := by
  obtain ⟨rfl, hg, hm⟩ := blt G hf
  refine PI_imp (L2.pi_enum hg hm (L2.pa_cons ha L2.pa_nil (hs _)) (hs _)) fun σV H R h => ?_
  refine tE_mono (tE_one (g := fun v M => match lsIt M v with | some I => .ok (.enum I) M | none => .err) (tE_cong h fun σ M => by rw [evIr] <;> rfl)) fun x H1 ⟨φ, M, v, Re, r, h1⟩ => ?_
  split at h1
  · rename_i I e
    obtain ⟨a, xs, rfl, hx, lr⟩ := LRel.sq Re r e
    exact ⟨a, xs, rfl, by rw [G.K]; exact hx, by rw [G.K]; exact TV.ok Re (.en lr) h1⟩
  · exact h1.elim
theorem i_zip (G : Good S k X) {A B : Ex} {a b : Expr} {f : Str} {p pos tpos : Pos} {elts : List Expr} {kk : Nat} (hf : bltOk S.T X.env.scope f "zip" = true) (hs : ∀ es, starEach (a :: es) X.env = (false, eval a X.env) :: starEach es X.env) (hs2 : ∀ es, starEach (b :: es) X.env = (false, eval b X.env) :: starEach es X.env)
    (ha : PE X a (tEv S k X W A)) (hb : PE X b (tEv S k X W B)) : PI X (.Tuple elts kk tpos) (.Call (.Name f p) [a, b] [] pos) (tIr S k X W (.zip A B)) := by
  obtain ⟨rfl, hg, hm⟩ := blt G hf
  refine PI_imp (RZ.pi_zipA hg hm (L2.pa_cons ha (L2.pa_cons hb L2.pa_nil (hs2 _)) (hs _)) (hs _) (by rw [hs2]; rfl)) fun σV H R h => ?_
  refine tE_mono (tE_two (g := fun v w M => zipIt M v w) (tE_cong h fun σ M => by rw [evIr])) fun x H1 h1 => tE_mono h1 fun y H2 ⟨φ, M, v, w, Re, r1, r2, h2⟩ => ?_
  rw [G.K]
  unfold zipIt at h2
  split at h2
  · split at h2
    · obtain ⟨a, xs, rfl, hx, q⟩ := r1.tup_
      obtain ⟨b, ys, rfl, hy, q'⟩ := r2.tup_
      exact ⟨a, b, xs, ys, rfl, .inr ⟨hx, hy, TV.ok Re (.zipT hx q hy q') h2⟩⟩
    · exact h2.elim
  · split at h2
    · rename_i I e1
      split at h2
      · rename_i J e2
        obtain ⟨a, xs, rfl, hx, l1⟩ := LRel.sq Re r1 e1
        obtain ⟨b, ys, rfl, hy, l2⟩ := LRel.sq Re r2 e2
        exact ⟨a, b, xs, ys, rfl, .inl ⟨hx, hy, TV.ok Re (.zip l1 l2) h2⟩⟩
      · exact h2.elim
    · exact h2.elim
theorem rngOk_of {i : Int} (h : rngOk i = true) : -(2 ^ 62) ≤ i ∧ i < 2 ^ 62 := by
  obtain ⟨h1, h2⟩ := Bool.and_eq_true_iff.mp (show (decide (-4611686018427387904 ≤ i) && decide (i < 4611686018427387904)) = true from h)
  have h1 := of_decide_eq_true h1
  have h2 := of_decide_eq_true h2
  exact ⟨by omega, by omega⟩
theorem pi_never {tg e : Expr} : PI X tg e (fun _ _ _ => False) := ⟨fun _ _ _ _ _ _ h => h.elim⟩
theorem i_range (G : Good S k X) {As : List Ex} {as : List Expr} {f : Str} {p pos : Pos} {tg : Expr} (hf : bltOk S.T X.env.scope f "range" = true) (hz : as.length ≤ 2) (h : PEs S k X W As as) : PI X tg (.Call (.Name f p) as [] pos) (tIr S k X W (.range As)) := by
  obtain ⟨rfl, hg, hm⟩ := blt G hf
  have rd : ∀ {σV H R}, tIr S k X W (.range As) σV H R → tAv S k X W As σV H fun xs H1 => xs.length = As.length ∧ ∃ φ M vs, Rel S φ M H1 ∧ RSs S X.base X.pn φ H1 vs xs ∧ TV S (fun φ H I J => IRel S φ H I J) φ H1 (okO M (rngOf vs)) R fun c d H' => W c d σV H' := fun h =>
    tA_len (g := fun vs M => okO M (rngOf vs)) (tE_cong h fun σ M => by rw [evIr])
  cases h with
  | nil =>
    refine PI_imp pi_never fun σV H R h => ?_
    obtain ⟨φ, σ, M, Re, sr, h⟩ := rd h
    have h : TV S _ φ H (evs S.Pr.env (run S.Pr k) [] σ M) _ _ := h
    rw [evs] at h
    obtain ⟨_, φ2, M2, vs, _, r2, h2⟩ := TV.ok (x := []) Re .nil h
    cases r2
    exact h2
  | cons g1 g2 g3 g4 =>
    cases g4 with
    | nil =>
      refine PI_imp (L2.pi_range1 hg hm (pa_ex G (.cons g1 g2 g3 .nil)) g3) fun σV H R h => tE_mono (rd h) fun xs H1 ⟨hlen, φ, M, vs, Re, rs, h1⟩ => ?_
      unfold rngOf at h1
      split at h1
      · obtain ⟨x, rfl, r⟩ := rs.one
        split at h1
        · rename_i hb
          obtain ⟨b1, b2⟩ := rngOk_of hb
          rw [r.int_]
          exact ⟨_, rfl, b1, b2, TV.ok Re (.rng _ _) h1⟩
        · exact h1.elim
      · have := rs.length
        rw [hlen] at this
        simp at this
      · exact h1.elim
    | cons g5 g6 g7 g8 =>
      cases g8 with
      | nil =>
        refine PI_imp (L2.pi_range2 hg hm (pa_ex G (.cons g1 g2 g3 (.cons g5 g6 g7 .nil))) (by rw [g3, g7]; rfl) g7) fun σV H R h => tE_mono (rd h) fun xs H1 ⟨hlen, φ, M, vs, Re, rs, h1⟩ => ?_
        unfold rngOf at h1
        split at h1
        · have := rs.length
          rw [hlen] at this
          simp at this
        · obtain ⟨x, y, rfl, r1, r2⟩ := rs.two
          split at h1
          · rename_i hb
            obtain ⟨b1, b2⟩ := Bool.and_eq_true_iff.mp hb
            rw [r1.int_, r2.int_]
            exact ⟨_, _, rfl, ⟨(rngOk_of b1).1, (rngOk_of b1).2, (rngOk_of b2).1, (rngOk_of b2).2⟩, TV.ok Re (.rng _ _) h1⟩
          · exact h1.elim
        · exact h1.elim
      | cons _ _ _ _ =>
        simp only [List.length_cons] at hz
        omega
end
end Mi
end
section
set_option Elab.async false
set_option linter.all false
set_option maxRecDepth 100000
/-! S21: targets that are names and tuples of names. -/
namespace Mi
open PySem PySem.Spec PyProof.Rows
open L2 (V Hp HO SqL SqT RelV upd upd_same upd_ne ne_of ne_of_none Key Cx Inv PE PT PW PA PC TE TT TA VK Vis Takes WX XK Room OpR Dp DpAll thn TyX TyOf ClsV Vals EP TP PO CallR Env0 frs trk FnScope AP PI TI PIE Itl Itt Itr Its Ite Itz PG PGs TG TGs)
section
variable {S : Link} {k : Nat} {X : Cx} {W : WX} {pins : List (Addr × PySem.Obj)} {σV : L2.St} {H : Hp} {s : Shared} {φ : List Addr} {M : Mem}
/-- a slot takes a value -/
theorem SR.set {σ : Sl} (G : X.N.Nodup) (sr : SR S X φ H σ σV) {i : Nat} {w : Val} {v : V} (r : RS S X.base X.pn φ H w v) : SR S X φ H (σ.set i (some w)) (σV.set i (some v)) := by
  refine ⟨by rw [List.length_set]; exact sr.len, by rw [List.length_set]; exact sr.lv, fun j y u e1 e2 e3 => ?_⟩
  by_cases h : i = j
  · subst h
    have hl : i < σ.length := by
      have := (List.getElem?_eq_some_iff.mp e1).1
      rw [List.length_set] at this; exact this
    rw [List.getElem?_set_self hl] at e1
    cases e1
    exact ⟨v, List.getElem?_set_self (by rw [sr.lv, ← sr.len]; exact hl), r⟩
  · rw [List.getElem?_set_ne h] at e1
    obtain ⟨x, e4, r4⟩ := sr.at_ j y u e1 e2 e3
    exact ⟨x, by rw [List.getElem?_set_ne h]; exact e4, r4⟩
/-- names that this scope calls own may be stored -/
def Sto (X : Cx) (ws : Scope) : Prop := ∀ x, locK (ws.names.lookup x) = true → L2.Loc X.env.scope x ∧ (X.fn x = true ∨ X.env.scope.names.lookup x = some .local)
theorem stoOk_lk {N : List Str} {sc : Scope} {i : Nat} {x : Str} (h : stoOk N sc i x = true) : N[i]? = some x ∧ locK (sc.names.lookup x) = true := by
  obtain ⟨h1, h2⟩ := Bool.and_eq_true_iff.mp (show (decide (N[i]? = some x) && locK (sc.names.lookup x)) = true from h)
  exact ⟨of_decide_eq_true h1, h2⟩
/-- the same but at these slots -/
def Agr (l : List Nat) (σV σV' : L2.St) : Prop := σV'.length = σV.length ∧ ∀ j, j ∉ l → σV'[j]? = σV[j]?
def gP (S : Link) (X : Cx) (t : Pt) : TG := fun v σV H Q => ∃ φ σ M w σ', Rel S φ M H ∧ SR S X φ H σ σV ∧ RD S φ H w v ∧ Pt.put t w σ = some σ' ∧ ∀ σV', SR S X φ H σ' σV' → Agr t.slots σV σV' → Q σV' H
def gPs (S : Link) (X : Cx) (ts : List Pt) : TGs := fun vs σV H Q => ∃ φ σ M ws σ', Rel S φ M H ∧ SR S X φ H σ σV ∧ RDs S φ H ws vs ∧ Pt.puts ts ws σ = some σ' ∧ ∀ σV', SR S X φ H σ' σV' → Agr (Pt.slotss ts) σV σV' → Q σV' H
theorem PG_imp {tg : Expr} {t u : TG} (h : PG X tg t) (i : ∀ v σ H Q, u v σ H Q → t v σ H Q) : PG X tg u := ⟨fun pins s σ H v uu Q I r hu => h.run pins s σ H v uu Q I r (i v σ H Q hu)⟩
theorem PGs_imp {tg : List Expr} {t u : TGs} (h : PGs X tg t) (i : ∀ v σ H Q, u v σ H Q → t v σ H Q) : PGs X tg u := ⟨fun pins s σ H v uu Q I r hu => h.run pins s σ H v uu Q I r (i v σ H Q hu)⟩
theorem pt_star {N : List Str} {ws : Scope} {t : Pt} {e : Expr} (h : chkPt N ws t e = true) : ∀ es env, assignEach (e :: es) env = (false, assign e env) :: assignEach es env := by
  cases t with
  | var i => cases e <;> first | (cases h; done) | (intro es env; rfl)
  | tup ts => cases e <;> first | (cases h; done) | (intro es env; rfl)
theorem pts_each {N : List Str} {ws : Scope} {env : PySem.Env} : ∀ {ts : List Pt} {es : List Expr}, chkPts N ws ts es = true → (assignEach es env).length = es.length ∧ (assignEach es env).findIdx? (·.1) = none ∧ ts.length = es.length
  | [], [], _ => ⟨rfl, rfl, rfl⟩
  | t :: ts, e :: es, h => by
    obtain ⟨h1, h2⟩ := Bool.and_eq_true_iff.mp (show (chkPt N ws t e && chkPts N ws ts es) = true from h)
    obtain ⟨a, b, c⟩ := pts_each (env := env) h2
    rw [pt_star h1]
    refine ⟨congrArg (· + 1) a, ?_, congrArg (· + 1) c⟩
    rw [List.findIdx?_cons]
    simp [b]
  | [], _ :: _, h => by cases h
  | _ :: _, [], h => by cases h
theorem puts_len : ∀ {ts : List Pt} {ws : List Val} {σ σ' : Sl}, Pt.puts ts ws σ = some σ' → ws.length = ts.length
  | [], [], _, _, _ => rfl
  | t :: ts, w :: ws, σ, σ', h => by
    have h : (match Pt.put t w σ with | some σ1 => Pt.puts ts ws σ1 | none => none) = some σ' := h
    split at h
    · exact congrArg (· + 1) (puts_len h)
    · cases h
  | [], _ :: _, _, _, h => by cases h
  | _ :: _, [], _, _, h => by cases h
mutual
theorem g_pt (hN : X.N.Nodup) (hK : X.K = S.K) (hc : X.calm = true) {ws : Scope} (hs : Sto X ws) : ∀ (t : Pt) {e : Expr}, chkPt X.N ws t e = true → PG X e (gP S X t)
  | .var i, e, h => by
    cases e <;> first | (cases h; done) | skip
    rename_i x pos
    obtain ⟨h1, h2⟩ := stoOk_lk (show stoOk X.N ws i x = true from h)
    obtain ⟨h3, h4⟩ := hs x h2
    refine PG_imp (L2.pg_name hN h1 h3 h4) fun v σV H Q ⟨φ, σ, M, w, σ', Re, sr, r, e, q⟩ => ?_
    cases (show some (σ.set i (some w)) = some σ' from e)
    exact q _ (sr.set hN (.d r.isD r)) ⟨by rw [List.length_set], fun j hj => List.getElem?_set_ne fun z => hj (by rw [z]; exact List.mem_cons_self)⟩
  | .tup ts, e, h => by
    cases e <;> first | (cases h; done) | skip
    rename_i es kk pos
    have h : chkPts X.N ws ts es = true := h
    obtain ⟨a, b, c⟩ := pts_each (env := X.env) h
    refine PG_imp (L2.pg_tup (n := es.length) hc (g_pts hN hK hc hs ts h) a b) fun v σV H Q ⟨φ, σ, M, w, σ', Re, sr, r, e, q⟩ => ?_
    cases w <;> first | (cases e; done) | skip
    rename_i xs
    obtain ⟨p, ys, rfl, hx, rx⟩ := (RS.d (base := X.base) (pn := X.pn) rfl r).tup_
    have e : Pt.puts ts xs σ = some σ' := e
    exact ⟨p, ys, rfl, by rw [hK]; exact hx, by rw [← rx.length, puts_len e, c], φ, σ, M, xs, σ', Re, sr, rx, e, q⟩
theorem g_pts (hN : X.N.Nodup) (hK : X.K = S.K) (hc : X.calm = true) {ws : Scope} (hs : Sto X ws) : ∀ (ts : List Pt) {es : List Expr}, chkPts X.N ws ts es = true → PGs X es (gPs S X ts)
  | [], es, h => by
    cases es with
    | cons _ _ => cases h
    | nil =>
      refine PGs_imp L2.pgs_nil fun vs σV H Q ⟨φ, σ, M, w, σ', Re, sr, r, e, q⟩ => ?_
      cases r with
      | nil =>
        cases (show some σ = some σ' from e)
        exact ⟨rfl, q _ sr ⟨rfl, fun _ _ => rfl⟩⟩
      | cons a b => have := puts_len e; cases this
  | t :: ts, es, h => by
    cases es with
    | nil => cases h
    | cons e es =>
      obtain ⟨h1, h2⟩ := Bool.and_eq_true_iff.mp (show (chkPt X.N ws t e && chkPts X.N ws ts es) = true from h)
      refine PGs_imp (L2.pgs_cons (g_pt hN hK hc hs t h1) (g_pts hN hK hc hs ts h2) (by rw [pt_star h1]; rfl)) fun vs σV H Q ⟨φ, σ, M, w, σ', Re, sr, r, e, q⟩ => ?_
      cases r with
      | nil => have := puts_len e; cases this
      | @cons w1 ws1 x1 xs1 r1 r2 =>
        have e : (match Pt.put t w1 σ with | some σ1 => Pt.puts ts ws1 σ1 | none => none) = some σ' := e
        split at e
        · rename_i σ1 e1
          exact ⟨x1, xs1, rfl, φ, σ, M, w1, σ1, Re, sr, r1, e1, fun σV1 sr1 ag1 => ⟨φ, σ1, M, ws1, σ', Re, sr1, r2, e, fun σV2 sr2 ag2 => q σV2 sr2 ⟨ag2.1.trans ag1.1, fun j hj => (ag2.2 j fun z => hj (List.mem_append_right _ z)).trans (ag1.2 j fun z => hj (List.mem_append_left _ z))⟩⟩⟩
        · cases e
end
end
end Mi
end
section
set_option Elab.async false
set_option linter.all false
set_option maxRecDepth 100000
/-! S22: what a comprehension asks; its block. -/
namespace Mi
open PySem PySem.Spec PyProof.Rows
open L2 (V Hp HO SqL SqT RelV upd upd_same upd_ne ne_of ne_of_none Key Cx Inv PE PT PW PA PC TE TT TA VK Vis Takes WX XK Room OpR Dp DpAll thn TyX TyOf ClsV Vals EP TP PO CallR Env0 frs trk FnScope AP PI TI PIE Itl Itt Itr Its Ite Itz PG PGs TG TGs BlkOk PTs)
/-- what data ask to be kept -/
structure KeepW (φ φ' : List Addr) (H H' : Hp) : Prop where
  imm : ∀ a o, H a = some o → Imm o → H' a = some o
  get : ∀ (n : Nat) (a : Addr), φ[n]? = some a → φ'[n]? = some a
section
variable {S : Link} {k : Nat} {X : Cx} {W : WX} {pins : List (Addr × PySem.Obj)} {σV : L2.St} {H H' : Hp} {s : Shared} {φ φ' : List Addr} {M : Mem}
theorem KeepW.sqT (k : KeepW φ φ' H H') {K : PySem.W.Frag} {a : Addr} {xs : List V} (h : SqT K H a xs) : SqT K H' a xs := by
  rcases h with (h | ⟨o, h⟩) | h
  · exact .inl (.inl (k.imm a _ h trivial))
  · exact .inl (.inr ⟨o, k.imm a _ h trivial⟩)
  · exact .inr h
mutual
theorem RD.monoW (k : KeepW φ φ' H H') : ∀ {v : Val} {x : V}, RD S φ H v x → RD S φ' H' v x
  | _, _, .non => .non
  | _, _, .bl b => .bl b
  | _, _, .int i => .int i
  | _, _, .str s => .str s
  | _, _, .tup h r => .tup (k.sqT h) (RDs.monoW k r)
  | _, _, .rl (o := o) h r => .rl (o := o) (h.imp (fun h => k.imm _ _ h trivial) id) (RDs.monoW k r)
  | _, _, .ref h => .ref (k.get _ _ h)
  | _, _, .glo h1 h2 h3 => .glo h1 h2 h3
  | _, _, .lm h1 h2 h3 h4 h5 h6 h7 => .lm h1 h2 h3 h4 h5 (k.imm _ _ h6 trivial) (k.imm _ _ h7 trivial)
theorem RDs.monoW (k : KeepW φ φ' H H') : ∀ {v : List Val} {x : List V}, RDs S φ H v x → RDs S φ' H' v x
  | _, _, .nil => .nil
  | _, _, .cons r t => .cons (RD.monoW k r) (RDs.monoW k t)
end
theorem RFs.monoW (k : KeepW φ φ' H H') : ∀ {v : List (Nm × Val)} {x : List (Str × V)}, RFs S φ H v x → RFs S φ' H' v x
  | _, _, .nil => .nil
  | _, _, .cons h r t => .cons h (r.monoW k) (RFs.monoW k t)
theorem RS.monoW {base : Heap} {pn : List (Addr × PySem.Obj)} (k : KeepW φ φ' H H') {v : Val} {x : V} (r : RS S base pn φ H v x) : RS S base pn φ' H' v x := by
  induction r with
  | d h r => exact .d h (r.monoW k)
  | clo XX h1 h2 h3 h4 h5 h6 h7 h8 h9 h10 _ ih => exact .clo XX h1 h2 h3 h4 (k.imm _ _ h5 trivial) (k.imm _ _ h6 trivial) h7 h8 h9 h10 fun i y v a b c => ih i y v a b c k
  | exv h1 h2 h3 h4 h5 h6 h7 => exact .exv h1 h2 h3 h4 h5 (k.imm _ _ h6 trivial) (h7.monoW k)
theorem SR.monoW {σ : Sl} (k : KeepW φ φ' H H') (r : SR S X φ H σ σV) : SR S X φ' H' σ σV :=
  ⟨r.len, r.lv, fun i y v a b c => let ⟨x, e, q⟩ := r.at_ i y v a b c; ⟨x, e, q.monoW k⟩⟩
theorem LRel.monoW (K : KeepW φ φ' H H') {I : It} {a : Addr} (r : LRel S φ H I a) : LRel S φ' H' I a := by
  cases r with
  | ls h => exact .ls (K.get _ _ h)
  | rl h q => exact .rl (h.imp (fun ⟨o, h⟩ => ⟨o, K.imm _ _ h trivial⟩) id) (q.monoW K)
theorem IRel.monoW (K : KeepW φ φ' H H') {I : It} {J : L2.It} (r : IRel S φ H I J) : IRel S φ' H' I J := by
  cases r with
  | ls h => exact .ls (h.monoW K)
  | tup h q => exact .tup (K.sqT h) (q.monoW K)
  | str z => exact .str z
  | rng lo n => exact .rng lo n
  | en h => exact .en (h.monoW K)
  | zip h q => exact .zip (h.monoW K) (q.monoW K)
  | zipT h1 h2 h3 h4 => exact .zipT (K.sqT h1) (h2.monoW K) (K.sqT h3) (h4.monoW K)
theorem Keep.w (k : Keep φ φ' H H') : KeepW φ φ' H H' := ⟨k.imm, fun n a h => k.get h⟩
theorem RO.monoW {o : Ob} {a : Addr} (k : KeepW φ φ' H H') (e : ∀ u, H a = some u → H' a = some u) (r : RO S φ H o a) : RO S φ' H' o a := by
  cases r with
  | lst h q => exact .lst (e _ h) (q.monoW k)
  | ins h0 h1 h2 h q => exact .ins h0 h1 h2 (e _ h) (q.monoW k)
/-- a list that is not of the small heap changes -/
theorem keepW_out {D : Addr} {xs ys : List V} (hD : H D = some (.lst xs)) : KeepW φ φ H (upd H D (.lst ys)) :=
  ⟨fun a o h i => by
    have : a ≠ D := fun z => by subst z; rw [hD] at h; cases h; exact i
    rw [upd_ne this]; exact h, fun _ _ h => h⟩
theorem Rel.outer {D : Addr} {xs ys : List V} (R : Rel S φ M H) (hD : H D = some (.lst xs)) (hn : D ∉ φ) : Rel S φ M (upd H D (.lst ys)) := by
  refine ⟨R.len, R.nd, fun n b a h1 h2 => (R.ob n b a h1 h2).monoW (keepW_out hD) fun u h => ?_, tabs_mono R.tab fun b u h hu => ?_⟩
  · have : a ≠ D := fun z => hn (by rw [← z]; exact List.mem_of_getElem? h2)
    rw [upd_ne this]; exact h
  · have : b ≠ D := fun z => by
      subst z; rw [hD] at h; cases h
      rcases hu with i | ⟨ps, e⟩
      · exact i
      · cases e
    rw [upd_ne this]; exact h
/-- a list becomes one of the small heap -/
theorem Rel.adopt {D : Addr} {xs : List V} {vs : List Val} (R : Rel S φ M H) (hD : H D = some (.lst xs)) (hn : D ∉ φ) (r : RDs S φ H vs xs) : Rel S (φ ++ [D]) (M ++ [.lst vs]) H := by
  have K : KeepW φ (φ ++ [D]) H H := ⟨fun _ _ h _ => h, fun n a h => by rw [List.getElem?_append_left (List.getElem?_eq_some_iff.mp h).1]; exact h⟩
  refine ⟨by rw [List.length_append, List.length_append, R.len]; rfl, ?_, fun n b a h1 h2 => ?_, R.tab⟩
  · exact List.nodup_append.mpr ⟨R.nd, by simp, fun a h b hb => by
      simp at hb; subst hb
      exact fun z => hn (by rw [← z]; exact h)⟩
  · by_cases hl : n < φ.length
    · rw [List.getElem?_append_left hl] at h2
      rw [List.getElem?_append_left (by rw [← R.len]; exact hl)] at h1
      exact (R.ob n b a h1 h2).monoW K fun u h => h
    · have hn' : n = φ.length := by
        have := (List.getElem?_eq_some_iff.mp h2).1
        rw [List.length_append] at this
        simp at this; omega
      subst hn'
      rw [List.getElem?_append_right (Nat.le_refl _)] at h2
      rw [R.len, List.getElem?_append_right (Nat.le_refl _)] at h1
      simp at h1 h2
      subst h1 h2
      exact .lst hD (r.monoW K)

/-! ### the block -/
abbrev bX (X : Cx) (s : Shared) (H : Hp) (scope : Scope) (C : Addr) (cl : List (Str × Addr)) (fp : List Addr) : Cx := X.blk s H scope (compEnvC scope cl C X.env) fp
abbrev W0 : WX := fun _ _ _ _ => False
theorem good_blk (G : Good S k X) {scope : Scope} {C : Addr} {cl : List (Str × Addr)} {fp : List Addr} : Good S k (bX X s H scope C cl fp) :=
  ⟨G.prog, G.w, G.K, G.mg, G.nd, G.names, G.calm, G.room, G.gb, G.free⟩
structure BlkF (N : List Str) (sc scope : Scope) (own : List Nat) : Prop where
  ok : BlkOk N sc scope (own.map fun i => ((N[i]?).getD "", i))
  lc : ∀ y, locK (scope.names.lookup y) = true → ∃ i ∈ own, N[i]? = some y
  fr : ∀ y, scope.names.lookup y = some .free → sc.names.lookup y = some .cell ∨ sc.names.lookup y = some .free
theorem own_snd {N : List Str} {own : List Nat} : (own.map fun i => ((N[i]?).getD ("" : Str), i)).map (·.2) = own := by
  rw [List.map_map]
  exact List.map_id' own
theorem blkB_of {N : List Str} {sc scope : Scope} {own : List Nat} (h : blkB N sc scope own = true) : BlkF N sc scope own := by
  unfold blkB at h
  simp only [Bool.and_eq_true, decide_eq_true_eq, List.all_eq_true] at h
  obtain ⟨h1, h2, h3, h4⟩ := h
  have fr : ∀ y ∈ scope.names, y.2 = .free → sc.names.lookup y.1 = some .cell ∨ sc.names.lookup y.1 = some .free := fun y hy e => by
    have := h3 y hy
    rw [e] at this
    simp only [Bool.or_eq_true, Bool.and_eq_true, decide_eq_true_eq] at this
    rcases this with ⟨a1, a2⟩ | a1
    · unfold locK at a1
      unfold isL at a2
      split at a1
      · rename_i q; rw [q] at a2; cases a2
      · rename_i q; exact .inl q
      · cases a1
    · exact .inr a1
  have lo : ∀ y ∈ scope.names, y.2 = .local ∨ y.2 = .cell → ∃ i ∈ own, N[i]? = some y.1 := fun y hy e => by
    have := h3 y hy
    rcases e with e | e
    · rw [e] at this
      obtain ⟨i, hi, hd⟩ := List.any_eq_true.mp this
      exact ⟨i, hi, of_decide_eq_true hd⟩
    · rw [e] at this
      obtain ⟨i, hi, hd⟩ := List.any_eq_true.mp this
      exact ⟨i, hi, of_decide_eq_true hd⟩
  refine ⟨⟨h1, h2, fun p hp => ?_, fr, fun y hy e => ?_⟩, fun y e => ?_, fun y e => fr _ (PySem.mem_of_lookup e) rfl⟩
  · obtain ⟨i, hi, rfl⟩ := List.mem_map.mp hp
    have := h4 i hi
    cases q : N[i]? with
    | none => rw [q] at this; cases this
    | some z => rfl
  · obtain ⟨i, hi, q⟩ := lo y hy e
    refine .inl (List.mem_map.mpr ⟨_, List.mem_map.mpr ⟨i, hi, rfl⟩, ?_⟩)
    rw [q]; rfl
  · unfold locK at e
    split at e
    · rename_i q; exact lo _ (PySem.mem_of_lookup q) (.inl rfl)
    · rename_i q; exact lo _ (PySem.mem_of_lookup q) (.inr rfl)
    · cases e
theorem sto_blk {scope : Scope} {C : Addr} {cl : List (Str × Addr)} {fp : List Addr} : Sto (bX X s H scope C cl fp) scope := fun x h => by
  have e : (bX X s H scope C cl fp).env.scope = L2.relS scope X.env.scope := rfl
  unfold locK at h
  split at h
  · rename_i q
    have q' := L2.lookup_relS_keep (sc := X.env.scope) (k := .local) (by decide) q
    exact ⟨.inl (by rw [e]; exact q'), .inr (by rw [e]; exact q')⟩
  · rename_i q
    have q' := L2.lookup_relS_keep (sc := X.env.scope) (k := .cell) (by decide) q
    refine ⟨.inr (by rw [e]; exact q'), .inl ?_⟩
    show (scope.names.lookup x == some .cell) = true
    rw [q]; rfl
  · cases h
theorem wipe_at {σ : Sl} {i : Nat} {x : Val} : ∀ {vs : List Nat}, (wipe σ vs)[i]? = some (some x) → σ[i]? = some (some x) ∧ i ∉ vs
  | [], h => ⟨h, by simp⟩
  | v :: vs, h => by
    unfold wipe at h
    by_cases hi : v = i
    · subst hi
      by_cases hv : v < (wipe σ vs).length
      · rw [List.getElem?_set_self hv] at h; cases h
      · rw [List.getElem?_eq_none (by simpa using hv)] at h; cases h
    · rw [List.getElem?_set_ne hi] at h
      obtain ⟨h1, h2⟩ := wipe_at h
      exact ⟨h1, by simp only [List.mem_cons, not_or]; exact ⟨fun e => hi e.symm, h2⟩⟩
theorem wipe_len {σ : Sl} : ∀ {vs : List Nat}, (wipe σ vs).length = σ.length
  | [] => rfl
  | v :: vs => by unfold wipe; rw [List.length_set, wipe_len]
theorem wipeV_out {σ : L2.St} {i : Nat} : ∀ {vs : List Nat}, i ∉ vs → (L2.wipe σ vs)[i]? = σ[i]?
  | [], _ => rfl
  | v :: vs, h => by
    unfold L2.wipe
    simp only [List.mem_cons, not_or] at h
    rw [List.getElem?_set_ne (fun z => h.1 z.symm), wipeV_out h.2]
theorem wipeV_in {σ : L2.St} {i : Nat} : ∀ {vs : List Nat}, i ∈ vs → i < σ.length → (L2.wipe σ vs)[i]? = some none
  | v :: vs, h, hl => by
    unfold L2.wipe
    by_cases hi : v = i
    · subst hi
      exact List.getElem?_set_self (by rw [L2.wipe_length]; exact hl)
    · rw [List.getElem?_set_ne hi]
      rcases List.mem_cons.mp h with e | h
      · exact (hi e.symm).elim
      · exact wipeV_in h hl
/-- a block's slots: those of the def, its own forgotten -/
theorem SR.blk {σ : Sl} {own : List Nat} {scope : Scope} {C : Addr} {cl : List (Str × Addr)} {fp : List Addr} (G : Good S k X) (B : BlkF X.N X.env.scope scope own) (sr : SR S X φ H σ σV) (hx : noXs σ = true) {s' : Shared} {H' : Hp} : SR S (bX X s' H' scope C cl fp) φ H (wipe σ own) (L2.wipe σV own) := by
  refine ⟨by rw [wipe_len]; exact sr.len, by rw [L2.wipe_length]; exact sr.lv, fun i y v e1 e2 e3 => ?_⟩
  obtain ⟨e4, e5⟩ := wipe_at e1
  have e3 : Vis (L2.relS scope X.env.scope) y := e3
  have e2 : X.N[i]? = some y := e2
  have hv : Vis X.env.scope y := by
    have key : ∀ kd, (L2.relS scope X.env.scope).names.lookup y = some kd → kd = .local ∨ kd = .cell ∨ kd = .free → Vis X.env.scope y := fun kd hk hkd => by
      obtain ⟨k', e, r⟩ := L2.lookup_relS hk
      have no : ¬ (k' = .local ∨ k' = .cell) := fun hh => by
        have : locK (scope.names.lookup y) = true := by rw [e]; rcases hh with rfl | rfl <;> rfl
        obtain ⟨j, hj, q⟩ := B.lc y this
        exact e5 (by rw [L2.nodup_ix G.nd e2 q]; exact hj)
      have : k' = .free := by
        rcases r with rfl | ⟨rfl, _⟩
        · rcases hkd with rfl | rfl | rfl
          · exact (no (.inl rfl)).elim
          · exact (no (.inr rfl)).elim
          · rfl
        · rfl
      subst this
      rcases B.fr y e with q | q
      · exact .inr (.inl q)
      · exact .inr (.inr q)
    rcases e3 with q | q | q
    · exact key _ q (.inl rfl)
    · exact key _ q (.inr (.inl rfl))
    · exact key _ q (.inr (.inr rfl))
  obtain ⟨x, q, r⟩ := sr.at_ i y v e4 e2 hv
  exact ⟨x, by rw [wipeV_out e5]; exact q, r.pn (noXs_at hx e4)⟩
/-- back where the block's own slots are forgotten -/
theorem agr_wipe {own l : List Nat} {σ2 : L2.St} (h : Agr l (L2.wipe σV own) σ2) (hl : ∀ i ∈ l, i ∈ own) : L2.wipe σ2 own = L2.wipe σV own := by
  refine List.ext_getElem? fun i => ?_
  have hlen : σ2.length = σV.length := by rw [h.1, L2.wipe_length]
  by_cases hi : i ∈ own
  · by_cases hz : i < σV.length
    · rw [wipeV_in hi (by rw [hlen]; exact hz), wipeV_in hi hz]
    · rw [List.getElem?_eq_none (by rw [L2.wipe_length, hlen]; omega), List.getElem?_eq_none (by rw [L2.wipe_length]; omega)]
  · rw [wipeV_out hi, h.2 i fun z => hi (hl i z)]

/-! ### the tests -/
abbrev tIfs (S : Link) (k : Nat) (X : Cx) (As : List Ex) : TT := tE S X W0 REq (fun σ M => evIfs S.Pr.env (run S.Pr k) As σ M)
theorem PTs_imp {es : List Expr} {t u : TT} (h : PTs X es t) (i : ∀ σ H Q, u σ H Q → t σ H Q) : PTs X es u := ⟨fun pins s σ H Q I hu => h.run pins s σ H Q I (i σ H Q hu)⟩
theorem ifs_ok {As : List Ex} {as : List Expr} (hz : as.length ≤ 1) (h : PEs S k X W0 As as) : PTs X as (tIfs S k X As) := by
  cases h with
  | nil =>
    refine PTs_imp L2.pts_nil fun σV H Q ⟨φ, σ, M, Re, sr, h⟩ => ?_
    have h : TV S REq φ H (evIfs S.Pr.env (run S.Pr k) [] σ M) Q _ := h
    rw [evIfs] at h
    exact TV.ok Re rfl h
  | @cons A As a as ha ta hs hr =>
    cases hr with
    | nil =>
      refine PTs_imp (L2.pts_one ta) fun σV H Q h => tE_cong h fun σ M => ?_
      unfold evT
      rw [evIfs]
      cases ev S.Pr.env (run S.Pr k) A σ M with
      | ok v M' =>
        show (match truthy M' v with | some true => evIfs S.Pr.env (run S.Pr k) [] σ M' | some false => R.ok false M' | none => .err) = okO M' (truthy M' v)
        cases truthy M' v with
        | none => rfl
        | some b =>
          cases b with
          | true => show evIfs S.Pr.env (run S.Pr k) [] σ M' = _; rw [evIfs]; rfl
          | false => rfl
      | exc e M' => rfl
      | err => rfl
    | cons _ _ _ _ => simp at hz
end
end Mi
end
section
set_option Elab.async false
set_option linter.all false
set_option maxRecDepth 100000
/-! S23: list comprehensions, one for. -/
namespace Mi
open PySem PySem.Spec PyProof.Rows
open L2 (V Hp HO SqL SqT RelV upd upd_same upd_ne ne_of ne_of_none Key Cx Inv PE PT PW PA PC TE TT TA VK Vis Takes WX XK Room OpR Dp DpAll thn TyX TyOf ClsV Vals EP TP PO CallR Env0 frs trk FnScope AP PI TI PIE Itl Itt Itr Its Ite Itz PG PGs TG TGs BlkOk PTs)
section
variable {S : Link} {k : Nat} {X : Cx} {W : WX} {pins : List (Addr × PySem.Obj)} {σV : L2.St} {H H' : Hp} {s : Shared} {φ φ' : List Addr} {M : Mem}
/-- a turn of a comprehension's last for -/
def turn1 (S : Link) (k : Nat) (Ifs : List Ex) (E : Ex) : Sl → List Val → Mem → R (List Val) := fun σ1 acc M => (evIfs S.Pr.env (run S.Pr k) Ifs σ1 M).bind fun b M => match b with
  | true => (ev S.Pr.env (run S.Pr k) E σ1 M).bind fun v M => match v.isD && decide (acc.length < lineN) with
    | true => .ok (acc ++ [v]) M
    | false => .err
  | false => .ok acc M
theorem evComp_one {own : List Nat} {t : Pt} {it : Ir} {Ifs : List Ex} {E : Ex} {σ : Sl} {acc : List Val} {M : Mem} :
    evComp S.Pr.env (run S.Pr k) (.loop t it Ifs (.elt E)) own σ acc M = (evIr S.Pr.env (run S.Pr k) it σ M).bind fun I M => compW I t (wipe σ own) (turn1 S k Ifs E) fuel 0 acc M := by
  rw [evComp]
  congr 1
/-- what stands at a turn: the list that is made at D -/
def CW (S : Link) (X : Cx) (I : It) (J : L2.It) (t : Pt) (σ : Sl) (own : List Nat) (turn : Sl → List Val → Mem → R (List Val)) (fin : List Val → Mem → R Val) (φ1 : List Addr) (H1 : Hp) (σV : L2.St) (D : Addr) (Q : VK) (W : WQ) (i m : Nat) (H : Hp) : Prop :=
  ∃ φ M acc ys, Rel S φ M H ∧ KeepW φ1 φ H1 H ∧ (∃ K0 : Keep φ1 φ H1 H, True) ∧ SR S X φ H σ σV ∧ IRel S φ H I J ∧ H D = some (.lst ys) ∧ D ∉ φ ∧ RDs S φ H acc ys ∧ TV S (RX S X) φ1 H1 ((compW I t (wipe σ own) turn m i acc M).bind fin) Q W
theorem lst_kept {D : Addr} {ys : List V} (K : Keep φ φ' H H') (hD : H D = some (.lst ys)) (hn : D ∉ φ) : H' D = some (.lst ys) ∧ D ∉ φ' := by
  refine ⟨K.oth D _ hD hn fun ps z => (by cases z), fun z => ?_⟩
  obtain ⟨ψ, e, hψ⟩ := K.ext
  rw [e] at z
  rcases List.mem_append.mp z with z | z
  · exact hn z
  · rw [hψ D z] at hD; cases hD
/-- the base: from H1, where D is none -/
theorem keep_over {D : Addr} {xs ys : List V} {φ1 : List Addr} {H1 : Hp} (K : Keep φ1 φ H1 H) (h1 : H1 D = none) (hD : H D = some (.lst xs)) : Keep φ1 φ H1 (upd H D (.lst ys)) := by
  refine ⟨fun a o h i => ?_, fun a o h n t => ?_, fun a o h => ?_, K.ext⟩
  · have : a ≠ D := fun z => by subst z; rw [h1] at h; cases h
    rw [upd_ne this]; exact K.imm a o h i
  · have : a ≠ D := fun z => by subst z; rw [h1] at h; cases h
    rw [upd_ne this]; exact K.oth a o h n t
  · have : a ≠ D := fun z => by subst z; rw [h1] at h; cases h
    rw [upd_ne this]; exact K.dom a o h
theorem keep_adopt {D : Addr} {φ1 : List Addr} {H1 : Hp} (K : Keep φ1 φ H1 H) (h1 : H1 D = none) : Keep φ1 (φ ++ [D]) H1 H := by
  obtain ⟨ψ, e, hψ⟩ := K.ext
  refine ⟨K.imm, K.oth, K.dom, ψ ++ [D], by rw [e, List.append_assoc], fun a ha => ?_⟩
  rcases List.mem_append.mp ha with z | z
  · exact hψ a z
  · simp at z; subst z; exact h1
theorem e_comp1 (G : Good S k X) {own : List Nat} {t : Pt} {it : Ir} {Ifs : List Ex} {E : Ex} {elt tg iter : Expr} {ifs : List Expr} {scope : Scope}
    (B : BlkF X.N X.env.scope scope own) (hsl : t.slots.all own.contains = true) :
    ∀ {pins : List (Addr × PySem.Obj)} {s : Shared} {σV : L2.St} {H : Hp} {Q : VK} {s0 : Shared} {H0 : Hp} {C0 : Addr} {cl0 : List (Str × Addr)} {fp0 : List Addr}, tEv S k X W (.comp own (.loop t it Ifs (.elt E))) σV H Q →
      L2.tLc (tIr S k X W it) (gP S (bX X s0 H0 scope C0 cl0 fp0) t) (tIfs S k (bX X s0 H0 scope C0 cl0 fp0) Ifs) (tEv S k (bX X s0 H0 scope C0 cl0 fp0) W0 E) own σV H Q := by
  intro pins s σV H Q s0 H0 C0 cl0 fp0 h
  have hs : ∀ i ∈ t.slots, i ∈ own := fun i hi => by
    have := List.all_eq_true.mp hsl i hi
    simpa using this
  have h := tE_bind (RV := fun φ H I J => IRel S φ H I J) (g := fun σ I M => match noXs σ with
    | true => (compW I t (wipe σ own) (turn1 S k Ifs E) fuel 0 [] M).bind fun vs M => R.ok (Val.ref M.length) (M ++ [Ob.lst vs])
    | false => .err) (f := fun σ M => match noXs σ with | true => evIr S.Pr.env (run S.Pr k) it σ M | false => .err) (tE_cong h fun σ M => by
      rw [ev]
      cases noXs σ with
      | false => rfl
      | true =>
        show R.bind (evComp _ _ _ _ _ _ _) _ = R.bind _ _
        rw [evComp_one]
        exact TV.bind_assoc)
  have h : tIr S k X W it σV H fun J H1 => ∃ φ1 σ I M1, Rel S φ1 M1 H1 ∧ SR S X φ1 H1 σ σV ∧ noXs σ = true ∧ IRel S φ1 H1 I J ∧ TV S (RX S X) φ1 H1 ((compW I t (wipe σ own) (turn1 S k Ifs E) fuel 0 [] M1).bind fun vs M => R.ok (Val.ref M.length) (M ++ [Ob.lst vs])) Q fun c d H' => W c d σV H' := by
    obtain ⟨φ, σ, M, Re, sr, h⟩ := h
    refine ⟨φ, σ, M, Re, sr, ?_⟩
    cases hx : noXs σ with
    | false =>
      have h : TV S (fun φ H I J => IRel S φ H I J) φ H (match noXs σ with | true => evIr S.Pr.env (run S.Pr k) it σ M | false => .err) _ _ := h
      rw [hx] at h
      exact h.elim
    | true =>
      have h : TV S (fun φ H I J => IRel S φ H I J) φ H (match noXs σ with | true => evIr S.Pr.env (run S.Pr k) it σ M | false => .err) _ _ := h
      rw [hx] at h
      refine TV.mono h fun J H1 ⟨φ1, σ1, I, M1, R1, sr1, r1, h1⟩ => ?_
      cases hx1 : noXs σ1 with
      | false => rw [hx1] at h1; exact h1.elim
      | true =>
        rw [hx1] at h1
        exact ⟨φ1, σ1, I, M1, R1, sr1, hx1, r1, h1⟩
  refine tE_mono h fun J H1 ⟨φ1, σ, I, M1, R1, sr, hx, r1, h1⟩ D hD => ?_
  refine ⟨CW S X I J t σ own (turn1 S k Ifs E) (fun vs M => R.ok (Val.ref M.length) (M ++ [Ob.lst vs])) φ1 H1 σV D Q fun c d H' => W c d σV H', ⟨fuel, φ1, M1, [], [], R1.new hD, (keep_new hD).w, ⟨keep_new hD, trivial⟩, sr.mono (keep_new hD), r1.mono (keep_new hD), upd_same, R1.out hD, .nil, h1⟩, ?_⟩
  intro i m H2 ⟨φ2, M2, acc, ys, R2, Kw, ⟨K2, _⟩, sr2, ir2, hD2, nD2, rd2, h2⟩
  cases m with
  | zero => exact h2.elim
  | succ m =>
    rw [compW] at h2
    cases e : I.item M2 i with
    | none => rw [e] at h2; exact h2.elim
    | some ov =>
      rw [e] at h2
      obtain ⟨j1, j2⟩ := ir2.turn R2 e
      cases ov with
      | none =>
        refine .inl ⟨j1 rfl, ?_⟩
        refine h2 (φ2 ++ [D]) H2 (.ref D) (R2.adopt hD2 nD2 rd2) (keep_adopt K2 hD) (.d rfl (.ref ?_))
        rw [← R2.len, List.getElem?_append_right (Nat.le_refl _)]
        simp
      | some v =>
        obtain ⟨go, yl⟩ := j2 v rfl
        refine .inr ⟨go, CW S X I J t σ own (turn1 S k Ifs E) (fun vs M => R.ok (Val.ref M.length) (M ++ [Ob.lst vs])) φ1 H1 σV D Q (fun c d H' => W c d σV H') (i + 1) m, fun H' hw => ⟨m, Nat.lt_succ_self m, hw⟩, fun x H3 hy => ?_⟩
        obtain ⟨R3, K3, r3⟩ := yl x H3 hy
        have h2 : TV S (RX S X) φ1 H1 (R.bind (match t.put v (wipe σ own) with | none => .err | some σ1 => match turn1 S k Ifs E σ1 acc M2 with | .ok acc1 M1 => compW I t (wipe σ own) (turn1 S k Ifs E) m (i + 1) acc1 M1 | _ => .err) fun vs M => R.ok (Val.ref M.length) (M ++ [Ob.lst vs])) Q fun c d H' => W c d σV H' := h2
        cases ep : t.put v (wipe σ own) with
        | none => rw [ep] at h2; exact h2.elim
        | some σ1 =>
          rw [ep] at h2
          obtain ⟨hD3, nD3⟩ := lst_kept K3 hD2 nD2
          refine ⟨φ2, wipe σ own, M2, v, σ1, R3, SR.blk G B (sr2.mono K3) hx, r3, ep, fun σV1 sr1 ag1 => ⟨agr_wipe ag1 hs, φ2, σ1, M2, R3, sr1, ?_⟩⟩
          have h2 : TV S (RX S X) φ1 H1 (R.bind (match turn1 S k Ifs E σ1 acc M2 with | .ok acc1 M1 => compW I t (wipe σ own) (turn1 S k Ifs E) m (i + 1) acc1 M1 | _ => .err) fun vs M => R.ok (Val.ref M.length) (M ++ [Ob.lst vs])) Q fun c d H' => W c d σV H' := h2
          show TV S REq φ2 H3 (evIfs S.Pr.env (run S.Pr k) Ifs σ1 M2) _ _
          unfold turn1 at h2
          cases e1 : evIfs S.Pr.env (run S.Pr k) Ifs σ1 M2 with
          | exc _ _ => rw [e1] at h2; exact h2.elim
          | err => rw [e1] at h2; exact h2.elim
          | ok b M4 =>
            rw [e1] at h2
            intro φ4 H4 b' R4 K4 eb
            have eb : b = b' := eb
            subst eb
            obtain ⟨hD4, nD4⟩ := lst_kept K4 hD3 nD3
            have K14 := (K2.trans K3).trans K4
            cases b with
            | false =>
              rw [if_neg Bool.false_ne_true]
              exact ⟨φ4, M4, acc, ys, R4, K14.w, ⟨K14, trivial⟩, (sr2.mono K3).mono K4, (ir2.mono K3).mono K4, hD4, nD4, (rd2.mono K3).mono K4, h2⟩
            | true =>
              rw [if_pos rfl]
              refine ⟨φ4, σ1, M4, R4, sr1.mono K4, ?_⟩
              have h2 : TV S (RX S X) φ1 H1 (R.bind (match (ev S.Pr.env (run S.Pr k) E σ1 M4).bind fun v M => (match v.isD && decide (acc.length < lineN) with | true => R.ok (acc ++ [v]) M | false => .err) with | .ok acc1 M1 => compW I t (wipe σ own) (turn1 S k Ifs E) m (i + 1) acc1 M1 | _ => .err) fun vs M => R.ok (Val.ref M.length) (M ++ [Ob.lst vs])) Q fun c d H' => W c d σV H' := h2
              show TV S (RX S (bX X s0 H0 scope C0 cl0 fp0)) φ4 H4 (ev S.Pr.env (run S.Pr k) E σ1 M4) _ _
              cases e2 : ev S.Pr.env (run S.Pr k) E σ1 M4 with
              | exc _ _ => rw [e2] at h2; exact h2.elim
              | err => rw [e2] at h2; exact h2.elim
              | ok u M5 =>
                rw [e2] at h2
                intro φ5 H5 y R5 K5 ry
                have h2 : TV S (RX S X) φ1 H1 (R.bind (match (match u.isD && decide (acc.length < lineN) with | true => R.ok (acc ++ [u]) M5 | false => .err) with | .ok acc1 M1 => compW I t (wipe σ own) (turn1 S k Ifs E) m (i + 1) acc1 M1 | _ => .err) fun vs M => R.ok (Val.ref M.length) (M ++ [Ob.lst vs])) Q fun c d H' => W c d σV H' := h2
                cases hc : u.isD && decide (acc.length < lineN) with
                | false => rw [hc] at h2; exact h2.elim
                | true =>
                  rw [hc] at h2
                  obtain ⟨c1, c2⟩ := Bool.and_eq_true_iff.mp hc
                  obtain ⟨hD5, nD5⟩ := lst_kept K5 hD4 nD4
                  have K15 := K14.trans K5
                  have rd5 := ((rd2.mono K3).mono K4).mono K5
                  refine ⟨ys, hD5, ?_, ?_⟩
                  · have := of_decide_eq_true c2
                    rw [← rd5.length, sizeLine_eq]
                    unfold lineN at this
                    omega
                  · have Kw5 : KeepW φ5 φ5 H5 (upd H5 D (.lst (ys ++ [y]))) := keepW_out hD5
                    have K16 : Keep φ1 φ5 H1 (upd H5 D (.lst (ys ++ [y]))) := keep_over K15 hD hD5
                    exact ⟨φ5, M5, acc ++ [u], ys ++ [y], R5.outer hD5 nD5, K16.w, ⟨K16, trivial⟩, (((sr2.mono K3).mono K4).mono K5).monoW Kw5, (((ir2.mono K3).mono K4).mono K5).monoW Kw5, upd_same, nD5, (rd5.append (.cons (ry.data c1) .nil)).monoW Kw5, h2⟩
end
end Mi
end
section
set_option Elab.async false
set_option linter.all false
set_option maxRecDepth 100000
set_option maxHeartbeats 1000000
/-! S24: expressions are sound. -/
namespace Mi
open PySem PySem.Spec PyProof.Rows
open L2 (V Hp HO SqL SqT RelV upd upd_same upd_ne ne_of ne_of_none Key Cx Inv PE PT PW PA PC TE TT TA VK Vis Takes WX XK Room OpR Dp DpAll thn TyX TyOf ClsV Vals EP TP PO CallR Env0 frs trk FnScope AP PI TI PIE PG PGs TG TGs BlkOk PTs)
section
variable {T : Tb} {L : Bool} {N : List Str} {sc : Scope}
theorem chk_star {A : Ex} {e : Expr} (h : chk T L N sc A e = true) : ∀ es env, starEach (e :: es) env = (false, eval e env) :: starEach es env := by
  intro es env
  cases e <;> first | rfl | (cases A <;> cases h)
theorem chk_noset {A : Ex} {e : Expr} (h : chk T L N sc A e = true) : ∀ q, behindInMarks q e = false := by
  intro q
  cases e <;> first | rfl | (cases A <;> cases h)
theorem chk_plain {A : Ex} {e : Expr} (h : chk T L N sc A e = true) : L2.PlainIx e := by
  intro o i
  cases e <;> first | rfl | (cases A <;> cases h)
end
section
variable {S : Link} {k : Nat}
theorem both {X : Cx} {W : WX} (G : Good S k X) {A : Ex} {a : Expr} (ha : PE X a (tEv S k X W A)) (he : ∀ whole, isTrue a X.env whole = (do let v ← whole; standAt a.pos; holding [v] (PySem.truthy v))) : PE X a (tEv S k X W A) ∧ PT X a (tTv S k X W A) := ⟨ha, t_plain G ha he⟩
theorem noW {X : Cx} : Takes X W0 := LamX.takes0
theorem e_comp_1 {X : Cx} {W : WX} (G : Good S k X) {own : List Nat} {t : Pt} {it : Ir} {Ifs : List Ex} {E : Ex} {elt tg iter : Expr} {ifs : List Expr} {scope : Scope} {pos : Pos} (hb : blkB X.N X.env.scope scope own = true) (hsl : t.slots.all own.contains = true) (hpt : chkPt X.N scope t tg = true)
    (hi : PI X tg iter (tIr S k X W it)) (hf : ∀ x, foldedSetIterable iter X.env x = pure x)
    (ht : ∀ (s : Shared) (H : Hp) (C : Addr) (cl : List (Str × Addr)) (fp : List Addr), PTs (bX X s H scope C cl fp) ifs (tIfs S k (bX X s H scope C cl fp) Ifs))
    (he : ∀ (s : Shared) (H : Hp) (C : Addr) (cl : List (Str × Addr)) (fp : List Addr), PE (bX X s H scope C cl fp) elt (tEv S k (bX X s H scope C cl fp) W0 E)) :
    PE X (.ListComp elt [⟨tg, iter, ifs, 0⟩] scope pos) (tEv S k X W (.comp own (.loop t it Ifs (.elt E)))) := by
  have B := blkB_of hb
  refine ⟨fun pins s σV H Q I h => ?_⟩
  have hg : ∀ (s' : Shared) (H' : Hp) (C : Addr) (cl : List (Str × Addr)) (fp : List Addr), PG (bX X s' H' scope C cl fp) tg (gP S (bX X s H scope 0 [] []) t) := fun s' H' C cl fp => g_pt (S := S) (X := bX X s' H' scope C cl fp) G.nd G.K G.calm sto_blk t hpt
  have hh := e_comp1 (W := W) (σV := σV) (H := H) (Q := Q) (elt := elt) (tg := tg) (iter := iter) (ifs := ifs) (pins := pins) (s := s) (s0 := s) (H0 := H) (C0 := 0) (cl0 := []) (fp0 := []) G B hsl h
  rw [← own_snd (N := X.N) (own := own)] at hh
  exact (L2.pe_lc G.calm G.nd hi B.ok hg (fun s' H' C cl fp => ht s' H' C cl fp) (fun s' H' C cl fp => he s' H' C cl fp) hf).run pins s σV H Q I hh
end
end Mi
end
section
set_option Elab.async false
set_option linter.all false
set_option maxRecDepth 100000
set_option maxHeartbeats 2000000
/-! S25: every checked expression is sound. -/
namespace Mi
open PySem PySem.Spec PyProof.Rows
open L2 (V Hp HO SqL SqT RelV upd upd_same upd_ne ne_of ne_of_none Key Cx Inv PE PT PW PA PC TE TT TA VK Vis Takes WX XK Room OpR Dp DpAll thn TyX TyOf ClsV Vals EP TP PO CallR Env0 frs trk FnScope AP PI TI PIE PG PGs TG TGs BlkOk PTs)
structure Ctx (S : Link) (k : Nat) : Prop where
  F : Facts S
  TF : TabF S
  FF : FnF S
  RK : RunOk S k
theorem and2 {a b : Bool} (h : (a && b) = true) : a = true ∧ b = true := Bool.and_eq_true_iff.mp h
theorem ir_fold {T : Tb} {L : Bool} {N : List Str} {sc : Scope} {tg : Expr} {A : Ir} {e : Expr} (h : chkIr T L N sc tg A e = true) : ∀ env x, foldedSetIterable e env x = pure x := by
  intro env x
  cases A with
  | val A =>
    have h : chk T L N sc A e = true := h
    cases e <;> first | rfl | (cases A <;> cases h)
  | range as => cases e <;> first | rfl | cases h
  | enum a => cases e <;> first | rfl | cases h
  | zip a b => cases e <;> first | rfl | cases h
  | rev a => cases e <;> first | rfl | cases h
variable {S : Link} {k : Nat}
mutual
theorem snd_e (C : Ctx S k) : ∀ (A : Ex) {X : Cx} {W : WX} {L : Bool} {e : Expr}, Good S k X → (L = true → LamOk S X) → Takes X W → chk S.T L X.N X.env.scope A e = true → PE X e (tEv S k X W A) ∧ PT X e (tTv S k X W A)
  | .var i, X, W, L, e, G, LO, tk, h => by
    cases e <;> first | (cases h; done) | skip
    exact both G (e_var G h) (fun _ => rfl)
  | .lit c, X, W, L, e, G, LO, tk, h => by
    cases e <;> first | (cases h; done) | skip
    exact both G (e_lit h) (fun _ => rfl)
  | .glo j, X, W, L, e, G, LO, tk, h => by
    cases e <;> first | (cases h; done) | skip
    exact both G (e_glo G C.F h) (fun _ => rfl)
  | .bin op a b, X, W, L, e, G, LO, tk, h => by
    cases e <;> first | (cases h; done) | skip
    rename_i x o y pos
    obtain ⟨h1, h2⟩ := and2 (show (chkB op o && (chk S.T L X.N X.env.scope a x && chk S.T L X.N X.env.scope b y)) = true from h)
    obtain ⟨h2, h3⟩ := and2 h2
    exact both G (e_bin G h1 (snd_e C a G LO tk h2).1 (snd_e C b G LO tk h3).1) (fun _ => rfl)
  | .neg a, X, W, L, e, G, LO, tk, h => by
    cases e <;> first | (cases h; done) | skip
    rename_i op x pos
    cases op <;> first | (cases h; done) | skip
    exact both G (e_neg G (snd_e C a G LO tk (show chk S.T L X.N X.env.scope a x = true from h)).1) (fun _ => rfl)
  | .not a, X, W, L, e, G, LO, tk, h => by
    cases e <;> first | (cases h; done) | skip
    rename_i op x pos
    cases op <;> first | (cases h; done) | skip
    have := snd_e C a G LO tk (show chk S.T L X.N X.env.scope a x = true from h)
    exact ⟨e_not G this.1, t_not G this.2⟩
  | .cmp a r, X, W, L, e, G, LO, tk, h => by
    cases e <;> first | (cases h; done) | skip
    rename_i x ops ys pos
    obtain ⟨h1, h2⟩ := and2 (show (chk S.T L X.N X.env.scope a x && chkCr S.T L X.N X.env.scope r ops ys) = true from h)
    have h1 := (snd_e C a G LO tk h1).1
    have h2 := snd_cr C r G LO tk h2
    exact ⟨e_cmp G h1 h2, t_cmp G h1 h2⟩
  | .and es, X, W, L, e, G, LO, tk, h => by
    cases e <;> first | (cases h; done) | skip
    rename_i op xs pos
    cases op <;> first | (cases h; done) | skip
    have h := snd_es C es G LO tk (show chks S.T L X.N X.env.scope es xs = true from h)
    exact ⟨e_and G h, (w_and G h).pt⟩
  | .or es, X, W, L, e, G, LO, tk, h => by
    cases e <;> first | (cases h; done) | skip
    rename_i op xs pos
    cases op <;> first | (cases h; done) | skip
    have h := snd_es C es G LO tk (show chks S.T L X.N X.env.scope es xs = true from h)
    exact ⟨e_or G h, (w_or G h).pt⟩
  | .ite c a b, X, W, L, e, G, LO, tk, h => by
    cases e <;> first | (cases h; done) | skip
    rename_i x y z pos
    obtain ⟨h1, h2⟩ := and2 (show (chk S.T L X.N X.env.scope c x && (chk S.T L X.N X.env.scope a y && chk S.T L X.N X.env.scope b z)) = true from h)
    obtain ⟨h2, h3⟩ := and2 h2
    have h1 := snd_e C c G LO tk h1
    have h2 := snd_e C a G LO tk h2
    have h3 := snd_e C b G LO tk h3
    exact ⟨e_ite G h1.2 h2.1 h3.1, t_ite G h1.2 h2.2 h3.2⟩
  | .ix a i, X, W, L, e, G, LO, tk, h => by
    cases e <;> first | (cases h; done) | skip
    rename_i x y pos
    obtain ⟨h1, h2⟩ := and2 (show (chk S.T L X.N X.env.scope a x && chk S.T L X.N X.env.scope i y) = true from h)
    exact both G (e_ix G (snd_e C a G LO tk h1).1 (snd_e C i G LO tk h2).1 (chk_plain h2)) (fun _ => rfl)
  | .sl a lo hi, X, W, L, e, G, LO, tk, h => by
    cases e <;> first | (cases h; done) | skip
    rename_i x y pos
    cases y <;> first | (cases h; done) | skip
    rename_i l hh st p2
    cases st <;> first | (cases h; done) | skip
    obtain ⟨h1, h2⟩ := and2 (show (chk S.T L X.N X.env.scope a x && (chkO S.T L X.N X.env.scope lo l && chkO S.T L X.N X.env.scope hi hh)) = true from h)
    obtain ⟨h2, h3⟩ := and2 h2
    exact both G (e_sl G (snd_e C a G LO tk h1).1 (snd_o C lo G LO tk h2) (snd_o C hi G LO tk h3)) (fun _ => rfl)
  | .tup es, X, W, L, e, G, LO, tk, h => by
    cases e <;> first | (cases h; done) | skip
    rename_i xs x1 pos
    obtain ⟨h1, h2⟩ := and2 (show (decide (xs.length ≤ 1000) && chks S.T L X.N X.env.scope es xs) = true from h)
    have h2 := snd_es C es G LO tk h2
    exact both G (e_tup G (of_decide_eq_true h1) (pes_len h2) h2) (fun _ => rfl)
  | .lst es, X, W, L, e, G, LO, tk, h => by
    cases e <;> first | (cases h; done) | skip
    rename_i xs pos
    obtain ⟨h1, h2⟩ := and2 (show (decide (xs.length ≤ 1000) && chks S.T L X.N X.env.scope es xs) = true from h)
    have h2 := snd_es C es G LO tk h2
    exact both G (e_lst G (of_decide_eq_true h1) (pes_len h2) h2) (fun _ => rfl)
  | .fld a f, X, W, L, e, G, LO, tk, h => by
    cases e <;> first | (cases h; done) | skip
    rename_i x n pos
    obtain ⟨h1, h2⟩ := and2 (show (decide (S.T.names[f]? = some n) && (noSup x && chk S.T L X.N X.env.scope a x)) = true from h)
    obtain ⟨h2, h3⟩ := and2 h2
    exact both G (e_fld G C.F (snd_e C a G LO tk h3).1 (of_decide_eq_true h1) h2) (fun _ => rfl)
  | .call j as, X, W, L, e, G, LO, tk, h => by
    cases e <;> first | (cases h; done) | skip
    rename_i f xs ks pos
    cases f <;> first | (cases h; done) | skip
    cases ks <;> first | (cases h; done) | skip
    rename_i x p
    obtain ⟨h1, h2⟩ := and2 (show (gloOk S.T X.env.scope j x && (S.T.fnOk j && chkA S.T L X.N X.env.scope as xs)) = true from h)
    obtain ⟨h2, h3⟩ := and2 h2
    exact both G (e_call G C.TF C.FF C.RK tk h1 (snd_as C as G LO tk h3) h2) (fun _ => rfl)
  | .callK j as, X, W, L, e, G, LO, tk, h => by
    cases e <;> first | (cases h; done) | skip
    rename_i f xs ks pos
    cases f <;> first | (cases h; done) | skip
    cases xs <;> first | (cases h; done) | skip
    cases ks with
    | nil => cases h
    | cons k1 ks =>
      rename_i x p
      obtain ⟨h1, h2⟩ := and2 (show (gloOk S.T X.env.scope j x && ((S.T.fnOk j && decide ((k1 :: ks).map (·.arg) = (S.T.pars j).map some)) && chkK S.T L X.N X.env.scope as (k1 :: ks))) = true from h)
      obtain ⟨h2, h4⟩ := and2 h2
      obtain ⟨h2, h3⟩ := and2 h2
      exact both G (e_callK G C.TF C.FF C.RK tk h1 (snd_ks C as G LO tk h4) (of_decide_eq_true h3) h2) (fun _ => rfl)
  | .app i as, X, W, L, e, G, LO, tk, h => by
    cases e <;> first | (cases h; done) | skip
    rename_i f xs ks pos
    cases f <;> first | (cases h; done) | skip
    cases ks <;> first | (cases h; done) | skip
    rename_i x p
    obtain ⟨h1, h2⟩ := and2 (show (varOk X.N X.env.scope i x && chkA S.T L X.N X.env.scope as xs) = true from h)
    exact both G (e_app G C.TF C.FF C.RK tk h1 (snd_as C as G LO tk h2)) (fun _ => rfl)
  | .make c as, X, W, L, e, G, LO, tk, h => by
    cases e <;> first | (cases h; done) | skip
    rename_i f xs ks pos
    cases f <;> first | (cases h; done) | skip
    cases ks <;> first | (cases h; done) | skip
    rename_i x p
    obtain ⟨h1, h2⟩ := and2 (show (gloOk S.T X.env.scope c x && (S.T.mkOk c && chks S.T L X.N X.env.scope as xs)) = true from h)
    obtain ⟨h2, h3⟩ := and2 h2
    exact both G (e_make G C.TF C.FF C.RK tk h1 (snd_es C as G LO tk h3) h2) (fun _ => rfl)
  | .meth a m as, X, W, L, e, G, LO, tk, h => by
    cases e <;> first | (cases h; done) | skip
    rename_i f xs ks pos
    cases f <;> first | (cases h; done) | skip
    cases ks <;> first | (cases h; done) | skip
    rename_i x n ap
    obtain ⟨h1, h⟩ := and2 (show (decide (S.T.names[m]? = some n) && (ap.endLine == pos.line && (noSup x && (decide (xs.length < 20) && (chk S.T L X.N X.env.scope a x && chks S.T L X.N X.env.scope as xs))))) = true from h)
    obtain ⟨h2, h⟩ := and2 h
    obtain ⟨h3, h⟩ := and2 h
    obtain ⟨h4, h⟩ := and2 h
    obtain ⟨h5, h6⟩ := and2 h
    exact both G (e_meth G C.F C.FF C.RK tk (of_decide_eq_true h1) h2 h3 (of_decide_eq_true h4) (snd_e C a G LO tk h5).1 (snd_es C as G LO tk h6)) (fun _ => rfl)
  | .bi b as, X, W, L, e, G, LO, tk, h => by
    cases e <;> first | (cases h; done) | skip
    rename_i f xs ks pos
    cases f <;> first | (cases h; done) | skip
    cases ks <;> first | (cases h; done) | skip
    rename_i x p
    obtain ⟨h1, h2⟩ := and2 (show (bltOk S.T X.env.scope x (biName b) && (biOk b && chks S.T L X.N X.env.scope as xs)) = true from h)
    obtain ⟨h2, h3⟩ := and2 h2
    exact both G (e_bi G h1 h2 (snd_es C as G LO tk h3)) (fun _ => rfl)
  | .me m a as, X, W, L, e, G, LO, tk, h => by
    cases e <;> first | (cases h; done) | skip
    rename_i f xs ks pos
    cases f <;> first | (cases h; done) | skip
    cases ks <;> first | (cases h; done) | skip
    rename_i x n ap
    obtain ⟨h1, h⟩ := and2 (show (decide (n = meName m) && (meOk m && (ap.endLine == pos.line && (noSup x && (decide (xs.length < 20) && (chk S.T L X.N X.env.scope a x && chks S.T L X.N X.env.scope as xs)))))) = true from h)
    obtain ⟨h0, h⟩ := and2 h
    obtain ⟨h2, h⟩ := and2 h
    obtain ⟨h3, h⟩ := and2 h
    obtain ⟨h4, h⟩ := and2 h
    obtain ⟨h5, h6⟩ := and2 h
    cases m <;> first | (cases h0; done) | skip
    have h1 := of_decide_eq_true h1
    subst h1
    exact both G (e_append G (snd_e C a G LO tk h5).1 h3 h2 (of_decide_eq_true h4) (snd_es C as G LO tk h6)) (fun _ => rfl)
  | .isi a cs, X, W, L, e, G, LO, tk, h => by
    cases e <;> first | (cases h; done) | skip
    rename_i f xs ks pos
    cases f <;> first | (cases h; done) | skip
    rename_i x p
    cases xs with
    | nil => cases h
    | cons y ys =>
      cases ys with
      | nil => cases h
      | cons z zs =>
        cases zs with
        | cons _ _ => cases h
        | nil =>
          cases ks with
          | cons _ _ => cases h
          | nil =>
            obtain ⟨h1, h2⟩ := and2 (show (bltOk S.T X.env.scope x "isinstance" && (chk S.T L X.N X.env.scope a y && chkIsi S.T X.env.scope cs z)) = true from h)
            obtain ⟨h2, h3⟩ := and2 h2
            have ha := (snd_e C a G LO tk h2).1
            have hst := fun es => chk_star h2 es X.env
            unfold chkIsi at h3
            split at h3
            · obtain ⟨h4, h5⟩ := and2 h3
              obtain ⟨h5, h6⟩ := and2 h5
              exact both G (e_isiT G C.F ha hst h1 h6 (of_decide_eq_true h5) (by intro z; subst z; cases h4)) (fun _ => rfl)
            · split at h3
              · exact both G (e_isi1 G C.F ha hst h1 h3) (fun _ => rfl)
              · cases h3
  | .comp own g, X, W, L, e, G, LO, tk, h => by
    cases e <;> first | (cases h; done) | skip
    rename_i elt gens scope pos
    obtain ⟨h0, h⟩ := and2 (show (!isElt g && (blkB X.N X.env.scope scope own && chkG S.T X.N own X.env.scope scope (L2.relS scope X.env.scope) g gens elt)) = true from h)
    obtain ⟨h1, h2⟩ := and2 h
    exact both G (snd_g C g G tk h0 h1 h2) (fun _ => rfl)
  | .lm n ps b, X, W, L, e, G, LO, tk, h => by
    cases e <;> first | (cases h; done) | skip
    rename_i a body scope pos
    obtain ⟨h1, h⟩ := and2 (show (L && (decide (n = X.N.length) && (lamB X.N X.env.scope scope ps a && (noFree scope && chk S.T false X.N scope b body)))) = true from h)
    obtain ⟨h2, h⟩ := and2 h
    obtain ⟨h3, h⟩ := and2 h
    obtain ⟨h4, h5⟩ := and2 h
    exact both G (e_lm G C.TF (LO h1) (of_decide_eq_true h2) h3 h4 h5) (fun _ => rfl)
  | .lsO it, X, W, L, e, G, LO, tk, h => by cases h
  | .tpO it, X, W, L, e, G, LO, tk, h => by cases h
theorem snd_es (C : Ctx S k) : ∀ (As : List Ex) {X : Cx} {W : WX} {L : Bool} {es : List Expr}, Good S k X → (L = true → LamOk S X) → Takes X W → chks S.T L X.N X.env.scope As es = true → PEs S k X W As es
  | [], X, W, L, es, G, LO, tk, h => by
    cases es with
    | nil => exact .nil
    | cons _ _ => cases h
  | A :: As, X, W, L, es, G, LO, tk, h => by
    cases es with
    | nil => cases h
    | cons e es =>
      obtain ⟨h1, h2⟩ := and2 (show (chk S.T L X.N X.env.scope A e && chks S.T L X.N X.env.scope As es) = true from h)
      have := snd_e C A G LO tk h1
      exact .cons this.1 this.2 (chk_star h1 es _) (snd_es C As G LO tk h2)
theorem snd_o (C : Ctx S k) : ∀ (A : Option Ex) {X : Cx} {W : WX} {L : Bool} {e : Option Expr}, Good S k X → (L = true → LamOk S X) → Takes X W → chkO S.T L X.N X.env.scope A e = true → PO X e (tOv S k X W A)
  | none, X, W, L, e, G, LO, tk, h => by
    cases e with
    | none => exact o_none
    | some _ => cases h
  | some A, X, W, L, e, G, LO, tk, h => by
    cases e with
    | none => cases h
    | some e => exact o_some (snd_e C A G LO tk h).1
theorem snd_cr (C : Ctx S k) : ∀ (r : List Cr) {X : Cx} {W : WX} {L : Bool} {os : List CmpOp} {es : List Expr}, Good S k X → (L = true → LamOk S X) → Takes X W → chkCr S.T L X.N X.env.scope r os es = true → PCr S k X W r os es
  | [], X, W, L, os, es, G, LO, tk, h => by
    cases os with
    | cons _ _ => cases es <;> cases h
    | nil =>
      cases es with
      | cons _ _ => cases h
      | nil => exact .nil
  | .mk op b :: r, X, W, L, os, es, G, LO, tk, h => by
    cases os with
    | nil => cases es <;> cases h
    | cons o os =>
      cases es with
      | nil => cases h
      | cons e es =>
        obtain ⟨h1, h2⟩ := and2 (show (chkC op o && (chk S.T L X.N X.env.scope b e && chkCr S.T L X.N X.env.scope r os es)) = true from h)
        obtain ⟨h2, h3⟩ := and2 h2
        exact .cons h1 (snd_e C b G LO tk h2).1 (chk_noset h2) (snd_cr C r G LO tk h3)
theorem snd_as (C : Ctx S k) : ∀ (As : List Ag) {X : Cx} {W : WX} {L : Bool} {es : List Expr}, Good S k X → (L = true → LamOk S X) → Takes X W → chkA S.T L X.N X.env.scope As es = true → PAgs S k X W As es
  | [], X, W, L, es, G, LO, tk, h => by
    cases es with
    | nil => exact .nil
    | cons _ _ => cases h
  | .ex A :: As, X, W, L, es, G, LO, tk, h => by
    cases es with
    | nil => cases h
    | cons e es =>
      obtain ⟨h1, h2⟩ := and2 (show (chk S.T L X.N X.env.scope A e && chkA S.T L X.N X.env.scope As es) = true from h)
      exact .ex (snd_e C A G LO tk h1).1 (chk_star h1 es _) (snd_as C As G LO tk h2)
  | .lam ps b :: As, X, W, L, es, G, LO, tk, h => by
    cases es with
    | nil => cases h
    | cons e es =>
      cases e <;> first | (cases h; done) | skip
      rename_i a body scope pos
      obtain ⟨h1, h⟩ := and2 (show (L && (lamB X.N X.env.scope scope ps a && (chk S.T false X.N scope b body && chkA S.T L X.N X.env.scope As es))) = true from h)
      obtain ⟨h2, h⟩ := and2 h
      obtain ⟨h3, h4⟩ := and2 h
      exact .lam (LO h1) h2 h3 (snd_as C As G LO tk h4)
theorem snd_ks (C : Ctx S k) : ∀ (As : List Ex) {X : Cx} {W : WX} {L : Bool} {es : List Keyword}, Good S k X → (L = true → LamOk S X) → Takes X W → chkK S.T L X.N X.env.scope As es = true → PKs S k X W As es
  | [], X, W, L, es, G, LO, tk, h => by
    cases es with
    | nil => exact .nil
    | cons _ _ => cases h
  | A :: As, X, W, L, es, G, LO, tk, h => by
    cases es with
    | nil => cases h
    | cons e es =>
      obtain ⟨n, e, kp⟩ := e
      cases n with
      | none => cases h
      | some n =>
        obtain ⟨h1, h2⟩ := and2 (show (chk S.T L X.N X.env.scope A e && chkK S.T L X.N X.env.scope As es) = true from h)
        exact .cons (snd_e C A G LO tk h1).1 (snd_ks C As G LO tk h2)
theorem snd_ir (C : Ctx S k) : ∀ (A : Ir) {X : Cx} {W : WX} {L : Bool} {tg e : Expr}, Good S k X → (L = true → LamOk S X) → Takes X W → chkIr S.T L X.N X.env.scope tg A e = true → PI X tg e (tIr S k X W A)
  | .val A, X, W, L, tg, e, G, LO, tk, h => i_val G (snd_e C A G LO tk h).1
  | .range as, X, W, L, tg, e, G, LO, tk, h => by
    cases e <;> first | (cases h; done) | skip
    rename_i f xs ks pos
    cases f <;> first | (cases h; done) | skip
    cases ks <;> first | (cases h; done) | skip
    rename_i x p
    obtain ⟨h1, h⟩ := and2 (show (bltOk S.T X.env.scope x "range" && (decide (xs.length ≤ 2) && chks S.T L X.N X.env.scope as xs)) = true from h)
    obtain ⟨h2, h3⟩ := and2 h
    exact i_range G h1 (of_decide_eq_true h2) (snd_es C as G LO tk h3)
  | .enum A, X, W, L, tg, e, G, LO, tk, h => by
    cases e <;> first | (cases h; done) | skip
    rename_i f xs ks pos
    cases f <;> first | (cases h; done) | skip
    rename_i x p
    cases xs with
    | nil => cases h
    | cons y ys =>
      cases ys with
      | cons _ _ => cases h
      | nil =>
        cases ks <;> first | (cases h; done) | skip
        obtain ⟨h1, h⟩ := and2 (show (bltOk S.T X.env.scope x "enumerate" && (isTup tg && chk S.T L X.N X.env.scope A y)) = true from h)
        obtain ⟨h2, h3⟩ := and2 h
        cases tg <;> first | (cases h2; done) | skip
        exact i_enum G h1 (fun es => chk_star h3 es _) (snd_e C A G LO tk h3).1
  | .zip A B, X, W, L, tg, e, G, LO, tk, h => by
    cases e <;> first | (cases h; done) | skip
    rename_i f xs ks pos
    cases f <;> first | (cases h; done) | skip
    rename_i x p
    cases xs with
    | nil => cases h
    | cons y ys =>
      cases ys with
      | nil => cases h
      | cons z zs =>
        cases zs with
        | cons _ _ => cases h
        | nil =>
          cases ks <;> first | (cases h; done) | skip
          obtain ⟨h1, h⟩ := and2 (show (bltOk S.T X.env.scope x "zip" && (isTup tg && (chk S.T L X.N X.env.scope A y && chk S.T L X.N X.env.scope B z))) = true from h)
          obtain ⟨h2, h⟩ := and2 h
          obtain ⟨h3, h4⟩ := and2 h
          cases tg <;> first | (cases h2; done) | skip
          exact i_zip G h1 (fun es => chk_star h3 es _) (fun es => chk_star h4 es _) (snd_e C A G LO tk h3).1 (snd_e C B G LO tk h4).1
  | .rev A, X, W, L, tg, e, G, LO, tk, h => by
    cases e <;> first | (cases h; done) | skip
    all_goals
      refine PI_imp pi_never fun σV H R ⟨φ, σ, M, Re, sr, h⟩ => ?_
      have h : TV S _ φ H (evIr S.Pr.env (run S.Pr k) (.rev A) σ M) _ _ := h
      rw [evIr] at h
      exact h
theorem snd_g (C : Ctx S k) : ∀ (g : Gn) {X : Cx} {W : WX} {own : List Nat} {scope : Scope} {gens : List Comprehension} {elt : Expr} {pos : Pos}, Good S k X → Takes X W → (!isElt g) = true → blkB X.N X.env.scope scope own = true → chkG S.T X.N own X.env.scope scope (L2.relS scope X.env.scope) g gens elt = true →
    PE X (.ListComp elt gens scope pos) (tEv S k X W (.comp own g))
  | .elt a, X, W, own, scope, gens, elt, pos, G, tk, h0, hb, h => by cases h0
  | .loop t it ifs g, X, W, own, scope, gens, elt, pos, G, tk, _, hb, h => by
    cases gens with
    | nil => cases h
    | cons c gens =>
      obtain ⟨tg, iter, is, as⟩ := c
      obtain ⟨h0, h⟩ := and2 (show (decide (as = 0) && (isElt g && (t.slots.all own.contains && (chkPt X.N scope t tg && (chkIr S.T false X.N X.env.scope tg it iter && (decide (is.length ≤ 1) && (chks S.T false X.N (L2.relS scope X.env.scope) ifs is && chkG S.T X.N own (L2.relS scope X.env.scope) scope (L2.relS scope X.env.scope) g gens elt))))))) = true from h)
      obtain ⟨h1, h⟩ := and2 h
      obtain ⟨h2, h⟩ := and2 h
      obtain ⟨h3, h⟩ := and2 h
      obtain ⟨h4, h⟩ := and2 h
      obtain ⟨h5, h⟩ := and2 h
      obtain ⟨h6, h7⟩ := and2 h
      have h0 := of_decide_eq_true h0
      subst h0
      cases g with
      | loop _ _ _ _ => cases h1
      | elt E =>
        cases gens with
        | cons _ _ => cases h7
        | nil =>
          exact e_comp_1 G hb h2 h3 (snd_ir C it (L := false) G (fun z => nomatch z) tk h4) (ir_fold h4 _) (fun s H Cc cl fp => ifs_ok (of_decide_eq_true h5) (snd_es C ifs (L := false) (good_blk G) (fun z => nomatch z) noW h6)) (fun s H Cc cl fp => (snd_e C E (L := false) (good_blk G) (fun z => nomatch z) noW h7).1)
end
end Mi
end
section
set_option Elab.async false
set_option linter.all false
set_option maxRecDepth 100000
/-! S26: the ends of statements; the simple ones. -/
namespace Mi
open PySem PySem.Spec PyProof.Rows
open L2 (V Hp HO SqL SqT RelV upd upd_same upd_ne ne_of ne_of_none Key Cx Inv PE PT PW PA PC PS PSs TS Ends TE TT TA VK Vis Takes WX XK Room OpR Dp DpAll thn TyX TyOf ClsV Vals EP TP PO CallR Env0 frs trk FnScope AP PI TI PIE PG PGs TG TGs BlkOk PTs)
section
variable {S : Link} {k : Nat} {X : Cx} {W : WX} {L : Bool} {pins : List (Addr × PySem.Obj)} {σV : L2.St} {H H' : Hp} {s : Shared} {φ φ' : List Addr} {M : Mem}
/-! ### op= -/
theorem op_aug (G : Good S k X) {op : BOp} {o : Operator} (hc : chkB op o = true) : OpR X (inplaceOp o) (rO S X (augop op)) := by
  intro pins s σ H x y v u Q I rx ry ⟨φ, M, a, b, Re, ra, rb, h⟩
  cases op with
  | add =>
    cases o <;> first | (cases hc; done) | skip
    unfold augop at h
    dsimp only at h
    split at h
    · rename_i i j
      rw [ra.int_] at rx
      rw [rb.int_] at ry
      exact L2.iop_add pins s σ H _ _ v u Q I rx ry ⟨i, j, rfl, rfl, TV.ok Re (.d rfl (.int _)) h⟩
    · rename_i i j
      rw [ra.str_] at rx
      rw [rb.str_] at ry
      split at h
      · rename_i hz
        exact L2.iop_add_str pins s σ H _ _ v u Q I rx ry ⟨i, j, rfl, rfl, line_le hz, TV.ok Re (.d rfl (.str _)) h⟩
      · exact h.elim
    · rename_i n m
      split at h
      · rename_i vs ws e1 e2
        obtain ⟨a, rfl, ha⟩ := ra.ref_
        obtain ⟨b, rfl, hb⟩ := rb.ref_
        obtain ⟨xs, hx, rxs⟩ := Re.lst ha (lsOf_lst e1)
        obtain ⟨ys, hy, rys⟩ := Re.lst hb (lsOf_lst e2)
        split at h
        · rename_i hz
          have hz := line_le hz
          rw [rxs.length, rys.length] at hz
          have K : Keep φ φ H (upd H a (.lst (xs ++ ys))) := keep_set (List.mem_of_getElem? ha) hx (fun z => z)
          obtain ⟨K, R2⟩ := Re.set ha (.lst upd_same ((rxs.append rys).mono K))
          exact L2.iop_ext pins s σ H _ _ v u Q I rx ry ⟨a, b, xs, ys, rfl, rfl, hx, hy, hz, h φ _ (.ref a) R2 K (.d rfl (.ref ha))⟩
        · exact h.elim
      · exact h.elim
    · exact h.elim
  | sub =>
    cases o <;> first | (cases hc; done) | skip
    unfold augop at h
    dsimp only at h
    split at h
    · rename_i i j
      rw [ra.int_] at rx
      rw [rb.int_] at ry
      exact L2.iop_sub pins s σ H _ _ v u Q I rx ry ⟨i, j, rfl, rfl, TV.ok Re (.d rfl (.int _)) h⟩
    · exact h.elim
  | mul =>
    cases o <;> first | (cases hc; done) | skip
    unfold augop at h
    dsimp only at h
    split at h
    · rename_i i j
      rw [ra.int_] at rx
      rw [rb.int_] at ry
      split at h
      · rename_i hm
        have hm := of_decide_eq_true hm
        have e : (2 : Int) ^ 64 = 18446744073709551616 := by decide
        exact L2.iop_mul pins s σ H _ _ v u Q I rx ry ⟨i, j, rfl, rfl, .inl ⟨by omega, by omega⟩, TV.ok Re (.d rfl (.int _)) h⟩
      · exact h.elim
    · exact h.elim
  | fdiv =>
    cases o <;> first | (cases hc; done) | skip
    unfold augop at h
    dsimp only at h
    split at h
    · rename_i i j
      rw [ra.int_] at rx
      rw [rb.int_] at ry
      split at h
      · rename_i hm
        exact L2.iop_fdivW pins s σ H _ _ v u Q I rx ry ⟨i, j, rfl, rfl, divOk_W hm, TV.ok Re (.d rfl (.int _)) h⟩
      · exact h.elim
    · exact h.elim
  | mod =>
    cases o <;> first | (cases hc; done) | skip
    unfold augop at h
    dsimp only at h
    split at h
    · rename_i i j
      rw [ra.int_] at rx
      rw [rb.int_] at ry
      split at h
      · rename_i hm
        exact L2.iop_mod pins s σ H _ _ v u Q I rx ry ⟨i, j, rfl, rfl, of_decide_eq_true hm, TV.ok Re (.d rfl (.int _)) h⟩
      · exact h.elim
    · exact h.elim
  | pow => exact (show False from h).elim
  | shl => exact (show False from h).elim
  | shr => exact (show False from h).elim
theorem augop_ne {op : BOp} {x y : Val} {M : Mem} : NoExc (augop op x y M) := by
  intro e M'
  unfold augop
  repeat' split
  all_goals (intro z; cases z)

/-! ### ends -/
def TF (S : Link) (X : Cx) (W : WX) (φ : List Addr) (H : Hp) (r : Fl) (D : Ends) : Prop :=
  match r with
  | .nx σ M => ∀ (φ' : List Addr) (H' : Hp) (σV' : L2.St), Rel S φ' M H' → Keep φ φ' H H' → SR S X φ' H' σ σV' → D.nx σV' H'
  | .bk σ M => ∀ (φ' : List Addr) (H' : Hp) (σV' : L2.St), Rel S φ' M H' → Keep φ φ' H H' → SR S X φ' H' σ σV' → D.bk σV' H'
  | .ct σ M => ∀ (φ' : List Addr) (H' : Hp) (σV' : L2.St), Rel S φ' M H' → Keep φ φ' H H' → SR S X φ' H' σ σV' → D.ct σV' H'
  | .rt v σ M => ∀ (φ' : List Addr) (H' : Hp) (x : V), Rel S φ' M H' → Keep φ φ' H H' → RX S X φ' H' v x → D.rt x H'
  | .exc e σ M => ∀ (φ' : List Addr) (H' : Hp) (σV' : L2.St) (C : Addr) (s : Str) (d : Addr) (ys : List (Str × V)), Rel S φ' M H' → Keep φ φ' H H' → SR S X φ' H' σ σV' → S.T.names[e.cls]? = some s → S.mg s = some (.ref C) → H' d = some (.xd ys) → RFs S φ' H' e.fs ys → W (.ref C) (some d) σV' H'
  | .err => False
theorem TF.keep {r : Fl} {D : Ends} (K : Keep φ φ' H H') (h : TF S X W φ H r D) : TF S X W φ' H' r D := by
  cases r with
  | nx σ M => exact fun a b c R K' => h a b c R (K.trans K')
  | bk σ M => exact fun a b c R K' => h a b c R (K.trans K')
  | ct σ M => exact fun a b c R K' => h a b c R (K.trans K')
  | rt v σ M => exact fun a b c R K' => h a b c R (K.trans K')
  | exc e σ M => exact fun a b c C s d ys R K' => h a b c C s d ys R (K.trans K')
  | err => exact h
theorem TF.fl {α β : Type} {RV : List Addr → Hp → α → β → Prop} {r : R α} {σ : Sl} {f : α → Mem → Fl} {D : Ends} (sr : SR S X φ H σ σV) (h : TF S X W φ H (r.fl σ f) D) :
    TV S RV φ H r (fun x H1 => ∃ φ1 v M1, Rel S φ1 M1 H1 ∧ Keep φ φ1 H H1 ∧ SR S X φ1 H1 σ σV ∧ RV φ1 H1 v x ∧ TF S X W φ1 H1 (f v M1) D) fun c d H' => W c d σV H' := by
  cases r with
  | ok v M' => exact fun φ' H' x R K r => ⟨φ', v, M', R, K, sr.mono K, r, TF.keep K h⟩
  | exc e M' => exact fun φ' H' C s d ys R K => h φ' H' σV C s d ys R K (sr.mono K)
  | err => exact h
theorem TF.nx {σ : Sl} {D : Ends} (Re : Rel S φ M H) (sr : SR S X φ H σ σV) (h : TF S X W φ H (.nx σ M) D) : D.nx σV H := h φ H σV Re (Keep.refl _ _) sr
def tSt (S : Link) (k : Nat) (X : Cx) (W : WX) (a : St) : TS := fun D σV H => ∃ φ σ M, Rel S φ M H ∧ SR S X φ H σ σV ∧ TF S X W φ H (xs S.Pr.env (run S.Pr k) a σ M) D
def tSs (S : Link) (k : Nat) (X : Cx) (W : WX) (as : List St) : TS := fun D σV H => ∃ φ σ M, Rel S φ M H ∧ SR S X φ H σ σV ∧ TF S X W φ H (xss S.Pr.env (run S.Pr k) as σ M) D
theorem PS_imp {e : Stmt} {t u : TS} (h : PS X e t) (i : ∀ D σ H, u D σ H → t D σ H) : PS X e u := ⟨fun pins s σ H D I hu => h.run pins s σ H D I (i D σ H hu)⟩
theorem PSs_imp {e : List Stmt} {t u : TS} (h : PSs X e t) (i : ∀ D σ H, u D σ H → t D σ H) : PSs X e u := ⟨fun pins s σ H D I hu => h.run pins s σ H D I (i D σ H hu)⟩
theorem ss_nil : PSs X [] (tSs S k X W []) := PSs_imp L2.pss_nil fun D σV H ⟨φ, σ, M, Re, sr, h⟩ => by
  rw [xss] at h
  exact h.nx Re sr
theorem ss_cons {a : St} {as : List St} {st : Stmt} {sts : List Stmt} (h1 : PS X st (tSt S k X W a)) (h2 : PSs X sts (tSs S k X W as)) : PSs X (st :: sts) (tSs S k X W (a :: as)) := by
  refine PSs_imp (L2.pss_cons h1 h2) fun D σV H ⟨φ, σ, M, Re, sr, h⟩ => ⟨φ, σ, M, Re, sr, ?_⟩
  rw [xss] at h
  cases e : xs S.Pr.env (run S.Pr k) a σ M with
  | nx σ1 M1 =>
    rw [e] at h
    exact fun φ' H' σV' R K sr' => ⟨φ', σ1, M1, R, sr', TF.keep K h⟩
  | bk σ1 M1 => rw [e] at h; exact h
  | ct σ1 M1 => rw [e] at h; exact h
  | rt v σ1 M1 => rw [e] at h; exact h
  | exc x σ1 M1 => rw [e] at h; exact h
  | err => rw [e] at h; exact h
theorem s_pass {pos : Pos} : PS X (.Pass pos) (tSt S k X W .pass) := PS_imp L2.ps_pass fun D σV H ⟨φ, σ, M, Re, sr, h⟩ => by
  rw [xs] at h
  exact h.nx Re sr
theorem s_brk {pos : Pos} : PS X (.Break pos) (tSt S k X W .brk) := PS_imp L2.ps_break fun D σV H ⟨φ, σ, M, Re, sr, h⟩ => by
  rw [xs] at h
  exact h φ H σV Re (Keep.refl _ _) sr
theorem s_cnt {pos : Pos} : PS X (.Continue pos) (tSt S k X W .cnt) := PS_imp L2.ps_continue fun D σV H ⟨φ, σ, M, Re, sr, h⟩ => by
  rw [xs] at h
  exact h φ H σV Re (Keep.refl _ _) sr
theorem s_retN {pos : Pos} : PS X (.Return none pos) (tSt S k X W (.ret none)) := PS_imp L2.ps_retN fun D σV H ⟨φ, σ, M, Re, sr, h⟩ => by
  rw [xs] at h
  exact h φ H .non Re (Keep.refl _ _) (.d rfl .non)
theorem s_ret {A : Ex} {a : Expr} {pos : Pos} (ha : PE X a (tEv S k X W A)) : PS X (.Return (some a) pos) (tSt S k X W (.ret (some A))) := PS_imp (L2.ps_ret ha) fun D σV H ⟨φ, σ, M, Re, sr, h⟩ => by
  rw [xs] at h
  exact ⟨φ, σ, M, Re, sr, (TF.fl (RV := RX S X) sr h).mono fun x H1 ⟨φ1, v, M1, R1, K1, sr1, r1, h1⟩ => h1 φ1 H1 x R1 (Keep.refl _ _) r1⟩
theorem s_ex {A : Ex} {a : Expr} {pos : Pos} (hc : isComp a = false) (ha : PE X a (tEv S k X W A)) : PS X (.Expr a pos) (tSt S k X W (.ex A)) := by
  refine PS_imp (L2.ps_expr ha ?_) fun D σV H ⟨φ, σ, M, Re, sr, h⟩ => ?_
  · cases a <;> first | rfl | cases hc
  · rw [xs] at h
    exact ⟨φ, σ, M, Re, sr, (TF.fl (RV := RX S X) sr h).mono fun x H1 ⟨φ1, v, M1, R1, K1, sr1, r1, h1⟩ => h1.nx R1 sr1⟩
theorem s_if {C : Ex} {A B : List St} {c : Expr} {a b : List Stmt} {pos : Pos} (hc : PT X c (tTv S k X W C)) (ha : PSs X a (tSs S k X W A)) (hb : PSs X b (tSs S k X W B)) : PS X (.If c a b pos) (tSt S k X W (.ifs C A B)) := by
  refine PS_imp (L2.ps_if hc ha hb) fun D σV H ⟨φ, σ, M, Re, sr, h⟩ => ⟨φ, σ, M, Re, sr, ?_⟩
  rw [xs] at h
  refine (TF.fl (RV := REq) sr h).mono fun x H1 ⟨φ1, v, M1, R1, K1, sr1, r1, h1⟩ => ?_
  have e : v = x := r1
  subst e
  cases v with
  | true => rw [if_pos rfl]; exact ⟨φ1, σ, M1, R1, sr1, h1⟩
  | false => rw [if_neg Bool.false_ne_true]; exact ⟨φ1, σ, M1, R1, sr1, h1⟩
theorem s_whl {C : Ex} {B : List St} {c : Expr} {b : List Stmt} {pos : Pos} (hp : PassesOwn (model X.prog X.w) X.A X.env X.xe) (hc : PT X c (tTv S k X W C)) (hb : PSs X b (tSs S k X W B)) : PS X (.While c b [] pos) (tSt S k X W (.whl C B)) := by
  refine PS_imp (L2.ps_while hp hc hb) fun D σV H ⟨φ, σ, M, Re, sr, h⟩ => ?_
  rw [xs] at h
  refine ⟨fun m σV H => ∃ φ σ M, Rel S φ M H ∧ SR S X φ H σ σV ∧ TF S X W φ H (whlW (fun σ M => evT S.Pr.env (run S.Pr k) C σ M) (fun σ M => xss S.Pr.env (run S.Pr k) B σ M) m σ M) D, ⟨fuel, φ, σ, M, Re, sr, h⟩, ?_⟩
  intro m σV H ⟨φ, σ, M, Re, sr, h⟩
  cases m with
  | zero => exact h.elim
  | succ m =>
    refine ⟨φ, σ, M, Re, sr, ?_⟩
    rw [whlW] at h
    show TV S REq φ H (evT S.Pr.env (run S.Pr k) C σ M) _ _
    cases e : evT S.Pr.env (run S.Pr k) C σ M with
    | exc x M1 =>
      rw [e] at h
      exact fun φ' H' C s d ys R K => h φ' H' σV C s d ys R K (sr.mono K)
    | err => rw [e] at h; exact h
    | ok bb M1 =>
      rw [e] at h
      intro φ1 H1 b' R1 K1 eb
      have eb : bb = b' := eb
      subst eb
      have sr1 := sr.mono K1
      cases bb with
      | false =>
        rw [if_neg Bool.false_ne_true]
        exact h φ1 H1 σV R1 K1 sr1
      | true =>
        rw [if_pos rfl]
        have h : TF S X W φ H (match xss S.Pr.env (run S.Pr k) B σ M1 with
          | .nx σ2 M2 => whlW (fun σ M => evT S.Pr.env (run S.Pr k) C σ M) (fun σ M => xss S.Pr.env (run S.Pr k) B σ M) m σ2 M2
          | .ct σ2 M2 => whlW (fun σ M => evT S.Pr.env (run S.Pr k) C σ M) (fun σ M => xss S.Pr.env (run S.Pr k) B σ M) m σ2 M2
          | .bk σ2 M2 => .nx σ2 M2
          | r => r) D := h
        have h := TF.keep K1 h
        refine ⟨fun σV H => ∃ φ σ M, Rel S φ M H ∧ SR S X φ H σ σV ∧ TF S X W φ H (whlW (fun σ M => evT S.Pr.env (run S.Pr k) C σ M) (fun σ M => xss S.Pr.env (run S.Pr k) B σ M) m σ M) D, fun σ' H' hw => ⟨m, Nat.lt_succ_self m, hw⟩, φ1, σ, M1, R1, sr1, ?_⟩
        cases e2 : xss S.Pr.env (run S.Pr k) B σ M1 with
        | nx σ2 M2 => rw [e2] at h; exact fun φ' H' σV' R K sr' => ⟨φ', σ2, M2, R, sr', TF.keep K h⟩
        | ct σ2 M2 => rw [e2] at h; exact fun φ' H' σV' R K sr' => ⟨φ', σ2, M2, R, sr', TF.keep K h⟩
        | bk σ2 M2 => rw [e2] at h; exact fun φ' H' σV' R K sr' => h φ' H' σV' R K sr'
        | rt v σ2 M2 => rw [e2] at h; exact h
        | exc x σ2 M2 => rw [e2] at h; exact h
        | err => rw [e2] at h; exact h
theorem s_for (G : Good S k X) {t : Pt} {it : Ir} {B : List St} {tg iter : Expr} {b : List Stmt} {pos : Pos} (hp : PassesOwn (model X.prog X.w) X.A X.env X.xe) (hs : Sto X X.env.scope) (ht : chkPt X.N X.env.scope t tg = true) (hi : PI X tg iter (tIr S k X W it)) (hf : ∀ x, foldedSetIterable iter X.env x = pure x) (hb : PSs X b (tSs S k X W B)) :
    PS X (.For tg iter b [] pos) (tSt S k X W (.for t it B)) := by
  refine PS_imp (L2.ps_for hp G.calm hi (g_pt (S := S) G.nd G.K G.calm hs t ht) hb hf) fun D σV H ⟨φ, σ, M, Re, sr, h⟩ => ⟨φ, σ, M, Re, sr, ?_⟩
  rw [xs] at h
  refine (TF.fl (RV := fun φ H I J => IRel S φ H I J) sr h).mono fun J H1 ⟨φ1, I, M1, R1, K1, sr1, r1, h1⟩ => ?_
  refine ⟨fun i m σV H => ∃ φ σ M, Rel S φ M H ∧ SR S X φ H σ σV ∧ IRel S φ H I J ∧ TF S X W φ H (forW I t (fun σ M => xss S.Pr.env (run S.Pr k) B σ M) m i σ M) D, ⟨fuel, φ1, σ, M1, R1, sr1, r1, h1⟩, ?_⟩
  intro i m σV H ⟨φ, σ, M, Re, sr, ir, h⟩
  cases m with
  | zero => exact h.elim
  | succ m =>
    rw [forW] at h
    cases e : I.item M i with
    | none => rw [e] at h; exact h.elim
    | some ov =>
      rw [e] at h
      obtain ⟨j1, j2⟩ := ir.turn Re e
      cases ov with
      | none => exact .inl ⟨j1 rfl, h.nx Re sr⟩
      | some v =>
        obtain ⟨go, yl⟩ := j2 v rfl
        refine .inr ⟨go, fun σV H => ∃ φ σ M, Rel S φ M H ∧ SR S X φ H σ σV ∧ IRel S φ H I J ∧ TF S X W φ H (forW I t (fun σ M => xss S.Pr.env (run S.Pr k) B σ M) m (i + 1) σ M) D, fun σ' H' hw => ⟨m, Nat.lt_succ_self m, hw⟩, fun x H2 hy => ?_⟩
        obtain ⟨R2, K2, r2⟩ := yl x H2 hy
        have h : TF S X W φ H (match t.put v σ with
          | none => .err
          | some σ1 => match xss S.Pr.env (run S.Pr k) B σ1 M with
            | .nx σ2 M2 => forW I t (fun σ M => xss S.Pr.env (run S.Pr k) B σ M) m (i + 1) σ2 M2
            | .ct σ2 M2 => forW I t (fun σ M => xss S.Pr.env (run S.Pr k) B σ M) m (i + 1) σ2 M2
            | .bk σ2 M2 => .nx σ2 M2
            | r => r) D := h
        have h := TF.keep K2 h
        cases ep : t.put v σ with
        | none => rw [ep] at h; exact h.elim
        | some σ1 =>
          rw [ep] at h
          refine ⟨φ, σ, M, v, σ1, R2, sr.mono K2, r2, ep, fun σV1 sr1 _ => ⟨φ, σ1, M, R2, sr1, ?_⟩⟩
          have h : TF S X W φ H2 (match xss S.Pr.env (run S.Pr k) B σ1 M with
            | .nx σ2 M2 => forW I t (fun σ M => xss S.Pr.env (run S.Pr k) B σ M) m (i + 1) σ2 M2
            | .ct σ2 M2 => forW I t (fun σ M => xss S.Pr.env (run S.Pr k) B σ M) m (i + 1) σ2 M2
            | .bk σ2 M2 => .nx σ2 M2
            | r => r) D := h
          have ir2 := ir.mono K2
          cases e2 : xss S.Pr.env (run S.Pr k) B σ1 M with
          | nx σ2 M2 => rw [e2] at h; exact fun φ' H' σV' R K sr' => ⟨φ', σ2, M2, R, sr', ir2.mono K, TF.keep K h⟩
          | ct σ2 M2 => rw [e2] at h; exact fun φ' H' σV' R K sr' => ⟨φ', σ2, M2, R, sr', ir2.mono K, TF.keep K h⟩
          | bk σ2 M2 => rw [e2] at h; exact fun φ' H' σV' R K sr' => h φ' H' σV' R K sr'
          | rt v σ2 M2 => rw [e2] at h; exact h
          | exc x σ2 M2 => rw [e2] at h; exact h
          | err => rw [e2] at h; exact h
end
end Mi
end
section
set_option Elab.async false
set_option linter.all false
set_option maxRecDepth 100000
/-! S27: assignment. -/
namespace Mi
open PySem PySem.Spec PyProof.Rows
open L2 (V Hp HO SqL SqT RelV upd upd_same upd_ne ne_of ne_of_none Key Cx Inv PE PT PW PA PC PS PSs TS Ends TE TT TA VK Vis Takes WX XK Room OpR Dp DpAll thn TyX TyOf ClsV Vals EP TP PO CallR Env0 frs trk FnScope AP PI TI PIE PG PGs TG TGs BlkOk PTs)
section
variable {S : Link} {k : Nat} {X : Cx} {W : WX} {L : Bool} {pins : List (Addr × PySem.Obj)} {σV : L2.St} {H H' : Hp} {s : Shared} {φ φ' : List Addr} {M : Mem}
/-- the end of a store -/
def AF (S : Link) (X : Cx) (φ : List Addr) (H : Hp) (r : R Sl) (Q : L2.St → Hp → Prop) : Prop :=
  match r with
  | .ok σ M => ∀ (φ' : List Addr) (H' : Hp) (σV' : L2.St), Rel S φ' M H' → Keep φ φ' H H' → SR S X φ' H' σ σV' → Q σV' H'
  | _ => False
theorem AF.keep {r : R Sl} {Q : L2.St → Hp → Prop} (K : Keep φ φ' H H') (h : AF S X φ H r Q) : AF S X φ' H' r Q := by
  cases r with
  | ok σ M => exact fun a b c R K' => h a b c R (K.trans K')
  | exc e M => exact h
  | err => exact h
theorem AF.bind {α β : Type} {RV : List Addr → Hp → α → β → Prop} {r : R α} {f : α → Mem → R Sl} {Q : L2.St → Hp → Prop} {W' : WQ} (h : AF S X φ H (r.bind f) Q) :
    TV S RV φ H r (fun x H1 => ∃ φ1 v M1, Rel S φ1 M1 H1 ∧ Keep φ φ1 H H1 ∧ RV φ1 H1 v x ∧ AF S X φ1 H1 (f v M1) Q) W' := by
  cases r with
  | ok v M' => exact fun φ' H' x R K r => ⟨φ', v, M', R, K, r, AF.keep K h⟩
  | exc e M' => exact h.elim
  | err => exact h.elim
def gT (S : Link) (k : Nat) (X : Cx) (t : Tg) : TG := fun v σV H Q => ∃ φ σ M w, Rel S φ M H ∧ SR S X φ H σ σV ∧ RX S X φ H w v ∧ AF S X φ H (asg S.Pr.env (run S.Pr k) t w σ M) Q
def gTs (S : Link) (k : Nat) (X : Cx) (ts : List Tg) : TGs := fun vs σV H Q => ∃ φ σ M ws, Rel S φ M H ∧ SR S X φ H σ σV ∧ RDs S φ H ws vs ∧ AF S X φ H (asgs S.Pr.env (run S.Pr k) ts ws σ M) Q
theorem tg_star {T : Tb} {N : List Str} {ws : Scope} {t : Tg} {e : Expr} (h : chkTg T N ws t e = true) : ∀ es env, assignEach (e :: es) env = (false, assign e env) :: assignEach es env := by
  intro es env
  cases e <;> first | rfl | (cases t <;> cases h)
theorem tgs_each {T : Tb} {N : List Str} {ws : Scope} {env : PySem.Env} : ∀ {ts : List Tg} {es : List Expr}, chkTgs T N ws ts es = true → (assignEach es env).length = es.length ∧ (assignEach es env).findIdx? (·.1) = none ∧ ts.length = es.length
  | [], [], _ => ⟨rfl, rfl, rfl⟩
  | t :: ts, e :: es, h => by
    obtain ⟨h1, h2⟩ := Bool.and_eq_true_iff.mp (show (chkTg T N ws t e && chkTgs T N ws ts es) = true from h)
    obtain ⟨a, b, c⟩ := tgs_each (env := env) h2
    rw [tg_star h1]
    refine ⟨congrArg (· + 1) a, ?_, congrArg (· + 1) c⟩
    rw [List.findIdx?_cons]
    simp [b]
  | [], _ :: _, h => by cases h
  | _ :: _, [], h => by cases h
theorem asgs_len {P : Env} {o : Oracle} : ∀ {ts : List Tg} {ws : List Val} {σ : Sl} {M : Mem} {Q : L2.St → Hp → Prop}, AF S X φ H (asgs P o ts ws σ M) Q → ws.length = ts.length
  | [], [], _, _, _, _ => rfl
  | [], _ :: _, _, _, _, h => by rw [asgs] at h; exact h.elim
  | _ :: _, [], _, _, _, h => by rw [asgs] at h; exact h.elim
  | t :: ts, w :: ws, σ, M, Q, h => by
    rw [asgs] at h
    cases e : asg P o t w σ M with
    | ok σ1 M1 =>
      rw [e] at h
      exact congrArg (· + 1) (asgs_len (show AF S X φ H (asgs P o ts ws σ1 M1) Q from h))
    | exc _ _ => rw [e] at h; exact h.elim
    | err => rw [e] at h; exact h.elim
/-- o.f = v as a target -/
def gFld (K : PySem.W.Frag) (ta : TE) (f : Str) : TG := fun y σ H Q => ta σ H fun x H2 => ∃ a C dx fs, x = .ref a ∧ H2 a = some (.ins C dx fs) ∧ L2.Cls K C ∧ L2.NoAttr K C f ∧ fs.length < 1000 ∧ Q σ (upd H2 a (.ins C dx (L2.putF f y fs)))
theorem pg_fld {o : Expr} {f : Str} {pos : Pos} {ta : TE} (ha : PE X o ta) : PG X (.Attribute o f pos) (gFld X.K ta f) := by
  refine ⟨fun pins s σ H v u Q I r h => ?_⟩
  have e : assign (.Attribute o f pos) X.env u = (do
      let ov ← holding [u] (eval o X.env)
      standAt pos.atName
      holding [u, ov] (setAttr ov f u)
      release [u, ov] []) := rfl
  rw [e]
  refine wpAny_bind (wpAny_holding (thn (ha.run pins s σ H _ I h) fun ov s1 ⟨x, H1, I1, rx, a, C, dx, fs, ex, ea, c, n, l, q⟩ => ?_))
  subst ex
  obtain rfl : ov = Value.ref a := rx
  refine wpAny_bind (wpAny_standAt (wpAny_bind (wpAny_holding (L2.setattr_ok I1 ea c n l r fun s2 I2 => ?_))))
  exact wpAny_release ⟨σ, _, I2, q⟩
theorem setIx_some {a i v : Val} {M M' : Mem} (h : setIx a i v M = some M') : ∃ n j xs q, a = .ref n ∧ i = .int j ∧ M[n]? = some (.lst xs) ∧ L2.ixN xs.length j = some q ∧ v.isD = true ∧ M' = M.set n (.lst (xs.set q v)) := by
  unfold setIx at h
  split at h
  · rename_i n j
    split at h
    · rename_i xs e
      split at h
      · rename_i q eq
        split at h
        · rename_i hd
          cases h
          exact ⟨n, j, xs, q, rfl, rfl, e, eq, hd, rfl⟩
        · cases h
      · cases h
    · cases h
  · cases h
theorem setF_some {a v : Val} {f : Nm} {M M' : Mem} (h : setF a f v M = some M') : ∃ n c fs, a = .ref n ∧ M[n]? = some (.ins c fs) ∧ v.isD = true ∧ fs.length < 100 ∧ M' = M.set n (.ins c (putF f v fs)) := by
  unfold setF at h
  split at h
  · rename_i n
    split at h
    · rename_i c fs e
      split at h
      · rename_i hc
        obtain ⟨h1, h2⟩ := Bool.and_eq_true_iff.mp hc
        cases h
        exact ⟨n, c, fs, rfl, e, h1, of_decide_eq_true h2, rfl⟩
      · cases h
    · cases h
  · cases h
/-- a field is stored, both ways -/
theorem Rel.fld (G : Good S k X) (Re : Rel S φ M H) {n : Nat} {p C dx : Addr} {c : Nm} {sn : Str} {fs : List (Nm × Val)} {ys : List (Str × V)} {f : Nm} {fn : Str} {v : Val} {y : V} (hp : φ[n]? = some p) (i0 : S.Pr.env.isCls c = true) (f1 : S.T.names[c]? = some sn) (f2 : S.mg sn = some (.ref C)) (f3 : H p = some (.ins C dx ys)) (f4 : RFs S φ H fs ys)
    (hf : S.T.names[f]? = some fn) (r : RD S φ H v y) : Keep φ φ H (upd H p (.ins C dx (L2.putF fn y ys))) ∧ Rel S φ (M.set n (.ins c (putF f v fs))) (upd H p (.ins C dx (L2.putF fn y ys))) := by
  have K : Keep φ φ H (upd H p (.ins C dx (L2.putF fn y ys))) := keep_set (List.mem_of_getElem? hp) f3 (fun z => z)
  exact Re.set hp (.ins i0 f1 f2 upd_same (RFs.mono K (f4.putF G.names hf r)))
mutual
theorem g_tg (C : Ctx S k) (G : Good S k X) (hs : Sto X X.env.scope) : ∀ (t : Tg) {e : Expr}, chkTg S.T X.N X.env.scope t e = true → PG X e (gT S k X t)
  | .var i, e, h => by
    cases e <;> first | (cases h; done) | skip
    rename_i x pos
    obtain ⟨h1, h2⟩ := stoOk_lk (show stoOk X.N X.env.scope i x = true from h)
    obtain ⟨h3, h4⟩ := hs x h2
    refine PG_imp (L2.pg_name G.nd h1 h3 h4) fun v σV H Q ⟨φ, σ, M, w, Re, sr, r, q⟩ => ?_
    rw [asg] at q
    exact q φ H _ Re (Keep.refl _ _) (sr.set G.nd r)
  | .tup ts, e, h => by
    cases e <;> first | (cases h; done) | skip
    rename_i es kk pos
    have h : chkTgs S.T X.N X.env.scope ts es = true := h
    obtain ⟨a, b, c⟩ := tgs_each (env := X.env) h
    refine PG_imp (L2.pg_tup (n := es.length) G.calm (g_tgs C G hs ts h) a b) fun v σV H Q ⟨φ, σ, M, w, Re, sr, r, q⟩ => ?_
    cases w with
    | tup xs =>
      obtain ⟨p, ys, rfl, hx, rx⟩ := r.tup_
      rw [asg] at q
      exact ⟨p, ys, rfl, by rw [G.K]; exact hx, by rw [← rx.length, asgs_len q, c], φ, σ, M, xs, Re, sr, rx, q⟩
    | _ => rw [asg] at q <;> first | exact q.elim | (intros; contradiction)
  | .sub a i, e, h => by
    cases e <;> first | (cases h; done) | skip
    rename_i x y pos
    obtain ⟨h1, h2⟩ := and2 (show (chk S.T false X.N X.env.scope a x && chk S.T false X.N X.env.scope i y) = true from h)
    have pa := (snd_e C a (L := false) (W := W0) G (fun z => nomatch z) noW h1).1
    have pi := (snd_e C i (L := false) (W := W0) G (fun z => nomatch z) noW h2).1
    refine PG_imp (L2.pg_sub pa pi L2.set_list ?_) fun v σV H Q ⟨φ, σ, M, w, Re, sr, r, q⟩ => ?_
    · intro v
      cases y <;> first | rfl | (cases i <;> cases h2)
    · rw [asg] at q
      refine ⟨φ, σ, M, Re, sr, (AF.bind (RV := RX S X) q).mono fun o H1 ⟨φ1, xo, M1, R1, K1, r1, q1⟩ => ⟨φ1, σ, M1, R1, sr.mono K1, (AF.bind (RV := RX S X) q1).mono fun j H2 ⟨φ2, yj, M2, R2, K2, r2, q2⟩ => ?_⟩⟩
      cases e : setIx xo yj w M2 with
      | none => rw [e] at q2; exact q2.elim
      | some M3 =>
        rw [e] at q2
        obtain ⟨n, jj, xs, qq, rfl, rfl, e1, e2, e3, rfl⟩ := setIx_some e
        obtain ⟨p, rfl, hp⟩ := (RS.mono K2 r1).ref_
        obtain ⟨ys, hy, rys⟩ := R2.lst hp e1
        have rv := (RS.mono K2 (RS.mono K1 r)).data e3
        have K : Keep φ2 φ2 H2 (upd H2 p (.lst (ys.set qq v))) := keep_set (List.mem_of_getElem? hp) hy (fun z => z)
        obtain ⟨K, R3⟩ := R2.set hp (.lst upd_same ((rys.set rv qq).mono K))
        exact ⟨p, ys, jj, qq, rfl, r2.int_, hy, by rw [← rys.length]; exact e2, q2 φ2 _ σV R3 K (((sr.mono K1).mono K2).mono K)⟩
  | .fld a f, e, h => by
    cases e <;> first | (cases h; done) | skip
    rename_i x n pos
    obtain ⟨h1, h2⟩ := and2 (show (decide (S.T.names[f]? = some n) && (noSup x && chk S.T false X.N X.env.scope a x)) = true from h)
    obtain ⟨h2, h3⟩ := and2 h2
    have h1 := of_decide_eq_true h1
    have pa := (snd_e C a (L := false) (W := W0) G (fun z => nomatch z) noW h3).1
    refine PG_imp (pg_fld pa) fun v σV H Q ⟨φ, σ, M, w, Re, sr, r, q⟩ => ?_
    rw [asg] at q
    refine ⟨φ, σ, M, Re, sr, (AF.bind (RV := RX S X) q).mono fun o H1 ⟨φ1, xo, M1, R1, K1, r1, q1⟩ => ?_⟩
    cases hf : S.Pr.env.isFld f with
    | false => rw [hf] at q1; exact q1.elim
    | true =>
      rw [hf] at q1
      cases e : setF xo f w M1 with
      | none =>
        have q1 : AF S X φ1 H1 (match setF xo f w M1 with | some M => .ok σ M | none => .err) Q := q1
        rw [e] at q1; exact q1.elim
      | some M3 =>
        have q1 : AF S X φ1 H1 (match setF xo f w M1 with | some M => .ok σ M | none => .err) Q := q1
        rw [e] at q1
        obtain ⟨m, c, fs, rfl, e1, e2, e3, rfl⟩ := setF_some e
        obtain ⟨p, rfl, hp⟩ := r1.ref_
        obtain ⟨sn, Cc, dx, ys, i0, f1, f2, f3, f4⟩ := R1.ins hp e1
        have rv := (RS.mono K1 r).data e2
        obtain ⟨K, R3⟩ := R1.fld G hp i0 f1 f2 f3 f4 h1 rv
        rw [G.K]
        exact ⟨p, Cc, dx, ys, rfl, f3, (C.F.kit c sn Cc f1 f2 i0).2.1, C.F.fld c sn Cc f n f1 f2 i0 hf h1, by rw [← f4.length]; omega, q1 φ1 _ σV R3 K ((sr.mono K1).mono K)⟩
theorem g_tgs (C : Ctx S k) (G : Good S k X) (hs : Sto X X.env.scope) : ∀ (ts : List Tg) {es : List Expr}, chkTgs S.T X.N X.env.scope ts es = true → PGs X es (gTs S k X ts)
  | [], es, h => by
    cases es with
    | cons _ _ => cases h
    | nil =>
      refine PGs_imp L2.pgs_nil fun vs σV H Q ⟨φ, σ, M, w, Re, sr, r, q⟩ => ?_
      cases r with
      | nil =>
        rw [asgs] at q
        exact ⟨rfl, q φ H σV Re (Keep.refl _ _) sr⟩
      | cons a b => have := asgs_len q; cases this
  | t :: ts, es, h => by
    cases es with
    | nil => cases h
    | cons e es =>
      obtain ⟨h1, h2⟩ := Bool.and_eq_true_iff.mp (show (chkTg S.T X.N X.env.scope t e && chkTgs S.T X.N X.env.scope ts es) = true from h)
      refine PGs_imp (L2.pgs_cons (g_tg C G hs t h1) (g_tgs C G hs ts h2) (by rw [tg_star h1]; rfl)) fun vs σV H Q ⟨φ, σ, M, w, Re, sr, r, q⟩ => ?_
      cases r with
      | nil => have := asgs_len q; cases this
      | @cons w1 ws1 x1 xs1 r1 r2 =>
        rw [asgs] at q
        refine ⟨x1, xs1, rfl, φ, σ, M, w1, Re, sr, .d r1.isD r1, ?_⟩
        cases e : asg S.Pr.env (run S.Pr k) t w1 σ M with
        | exc _ _ => rw [e] at q; exact q.elim
        | err => rw [e] at q; exact q.elim
        | ok σ1 M1 =>
          rw [e] at q
          exact fun φ' H' σV' R K sr' => ⟨φ', σ1, M1, ws1, R, sr', r2.mono K, AF.keep K q⟩
end
end
end Mi
end
section
set_option Elab.async false
set_option linter.all false
set_option maxRecDepth 100000
/-! S28: assignment statements. -/
namespace Mi
open PySem PySem.Spec PyProof.Rows
open L2 (V Hp HO SqL SqT RelV upd upd_same upd_ne ne_of ne_of_none Key Cx Inv PE PT PW PA PC PS PSs TS Ends TE TT TA VK Vis Takes WX XK Room OpR Dp DpAll thn TyX TyOf ClsV Vals EP TP PO CallR Env0 frs trk FnScope AP PI TI PIE PG PGs TG TGs BlkOk PTs)
theorem sw_none {ts vs : List Expr} {k k2 : Nat} {p p2 : Pos} {env : PySem.Env} (h : swNone env.scope ts vs = true) : swappedStores [.Tuple ts k p] (.Tuple vs k2 p2) env = pure none := by
  unfold swappedStores
  unfold swNone at h
  dsimp only
  split
  · rfl
  · rename_i c1
    split
    · rfl
    · split
      · rfl
      · rename_i c3
        split
        · rfl
        · rename_i c4
          exfalso
          rw [Bool.or_eq_true, Bool.or_eq_true] at h
          rcases h with (h | h) | h
          · apply c1
            rw [h]; rfl
          · exact c3 h
          · exact c4 h
theorem sw_par {ts vs : List Expr} {k k2 : Nat} {p p2 : Pos} {env : PySem.Env} (hk : env.blockKind = .function) (hst : (vs.any fun | .Starred .. => true | _ => false) = false) (h : swPar env.scope ts vs = true) : swappedStores [.Tuple ts k p] (.Tuple vs k2 p2) env = pure (some (swNames env.scope ts)) := by
  unfold swPar at h
  simp only [Bool.and_eq_true] at h
  obtain ⟨⟨⟨h1, h2⟩, h3, h4⟩, h5, h6⟩ := h
  unfold swappedStores
  dsimp only
  split
  · rename_i c1
    exfalso
    rw [hk, h1, bne, h2] at c1
    cases c1
  · split
    · rename_i c2
      exfalso
      have c2 : (vs.any fun | .Starred .. => true | _ => false) = true := c2
      rw [hst] at c2
      cases c2
    · split
      · rename_i c3
        exfalso
        have c3 : ((swNames env.scope ts).length != ts.length || (swNames env.scope ts).eraseDups.length != (swNames env.scope ts).length) = true := c3
        rw [bne, bne, h3, h4] at c3
        cases c3
      · split
        · rename_i c4
          rw [c4] at h5
          cases h5
        · split
          · rename_i c5
            rw [c5] at h6
            cases h6
          · rfl
section
variable {S : Link} {k : Nat} {X : Cx} {W : WX} {L : Bool} {pins : List (Addr × PySem.Obj)} {σV : L2.St} {H H' : Hp} {s : Shared} {φ φ' : List Addr} {M : Mem}
theorem af_tf {r : R Sl} {D : Ends} (h : TF S X W φ H (match r with | .ok σ1 M1 => .nx σ1 M1 | _ => .err) D) : AF S X φ H r D.nx := by
  cases r with
  | ok σ1 M1 => exact h
  | exc _ _ => exact h.elim
  | err => exact h.elim
theorem s_asg {A : Ex} {t : Tg} {tg e : Expr} {pos : Pos} (he : PE X e (tEv S k X W A)) (hg : PG X tg (gT S k X t)) (hs : swapsWithSole [tg] e pos.line X.env = pure false) (hw : swappedStores [tg] e X.env = pure none) (h1 : (assignEach [tg] X.env).map (·.2) = [assign tg X.env]) :
    PS X (.Assign [tg] e pos) (tSt S k X W (.asg t A)) := by
  refine PS_imp (L2.ps_asg he hg hs hw h1) fun D σV H ⟨φ, σ, M, Re, sr, h⟩ => ⟨φ, σ, M, Re, sr, ?_⟩
  rw [xs] at h
  exact (TF.fl (RV := RX S X) sr h).mono fun x H1 ⟨φ1, v, M1, R1, K1, sr1, r1, h1⟩ => ⟨φ1, σ, M1, v, R1, sr1, r1, af_tf h1⟩
/-- two, three local names: stored from the right -/
theorem s_par2 (G : Good S k X) {i j : Nat} {x y : Str} {A B : Ex} {a b : Expr} {px py pt pos : Pos} {kt k2 : Nat} {pt2 : Pos} (hi : X.N[i]? = some x) (hj : X.N[j]? = some y) (hij : i ≠ j) (hx : X.env.scope.names.lookup x = some .local) (hy : X.env.scope.names.lookup y = some .local)
    (ha : PEs S k X W [A, B] [a, b]) (hw : swappedStores [.Tuple [.Name x px, .Name y py] kt pt] (.Tuple [a, b] k2 pt2) X.env = pure (some [x, y])) :
    PS X (.Assign [.Tuple [.Name x px, .Name y py] kt pt] (.Tuple [a, b] k2 pt2) pos) (tSt S k X W (.asg (.tup [.var i, .var j]) (.tup [A, B]))) := by
  refine PS_imp (L2.ps_par G.calm G.nd hi hj hij hx hy (pa_ex G ha) hw) fun D σV H ⟨φ, σ, M, Re, sr, h⟩ => ?_
  rw [xs, ev] at h
  refine ⟨φ, σ, M, Re, sr, ?_⟩
  have h : TF S X W φ H ((evs S.Pr.env (run S.Pr k) [A, B] σ M).fl σ fun vs M => (nodata vs (R.ok (Val.tup vs) M)).fl σ fun v M => match asg S.Pr.env (run S.Pr k) (.tup [.var i, .var j]) v σ M with
    | .ok σ1 M1 => .nx σ1 M1
    | _ => .err) D := by
    cases e : evs S.Pr.env (run S.Pr k) [A, B] σ M with
    | ok vs M1 => rw [e] at h; exact h
    | exc _ _ => rw [e] at h; exact h
    | err => rw [e] at h; exact h
  refine (TF.fl (RV := fun φ H vs xs => RSs S X.base X.pn φ H vs xs) sr h).mono fun zs H1 ⟨φ1, vs, M1, R1, K1, sr1, r1, h1⟩ => ?_
  cases hd : allD vs with
  | false => unfold nodata at h1; rw [hd] at h1; exact h1.elim
  | true =>
    unfold nodata at h1
    rw [hd] at h1
    have h1 := af_tf h1
    rw [asg] at h1
    have hl := asgs_len h1
    match vs, hl, r1, h1 with
    | [v, w], _, .cons (x := p) r2 (.cons (x := q) r3 .nil), h1 =>
      refine ⟨p, q, rfl, ?_⟩
      rw [asgs, asg] at h1
      have h1 : AF S X φ1 H1 (asgs S.Pr.env (run S.Pr k) [.var j] [w] (σ.set i (some v)) M1) D.nx := h1
      rw [asgs, asg] at h1
      have h1 : AF S X φ1 H1 (asgs S.Pr.env (run S.Pr k) [] [] ((σ.set i (some v)).set j (some w)) M1) D.nx := h1
      rw [asgs] at h1
      exact h1 φ1 H1 _ R1 (Keep.refl _ _) ((sr1.set G.nd r2).set G.nd r3)
theorem s_par3 (G : Good S k X) {i j l : Nat} {x y z : Str} {A B C : Ex} {a b c : Expr} {px py pz pt pos : Pos} {kt k2 : Nat} {pt2 : Pos} (hi : X.N[i]? = some x) (hj : X.N[j]? = some y) (hl : X.N[l]? = some z) (hij : i ≠ j) (hil : i ≠ l) (hjl : j ≠ l)
    (hx : X.env.scope.names.lookup x = some .local) (hy : X.env.scope.names.lookup y = some .local) (hz : X.env.scope.names.lookup z = some .local)
    (ha : PEs S k X W [A, B, C] [a, b, c]) (hw : swappedStores [.Tuple [.Name x px, .Name y py, .Name z pz] kt pt] (.Tuple [a, b, c] k2 pt2) X.env = pure (some [x, y, z])) :
    PS X (.Assign [.Tuple [.Name x px, .Name y py, .Name z pz] kt pt] (.Tuple [a, b, c] k2 pt2) pos) (tSt S k X W (.asg (.tup [.var i, .var j, .var l]) (.tup [A, B, C]))) := by
  refine PS_imp (L2.ps_par3 G.calm G.nd hi hj hl hij hil hjl hx hy hz (pa_ex G ha) hw) fun D σV H ⟨φ, σ, M, Re, sr, h⟩ => ?_
  rw [xs, ev] at h
  refine ⟨φ, σ, M, Re, sr, ?_⟩
  have h : TF S X W φ H ((evs S.Pr.env (run S.Pr k) [A, B, C] σ M).fl σ fun vs M => (nodata vs (R.ok (Val.tup vs) M)).fl σ fun v M => match asg S.Pr.env (run S.Pr k) (.tup [.var i, .var j, .var l]) v σ M with
    | .ok σ1 M1 => .nx σ1 M1
    | _ => .err) D := by
    cases e : evs S.Pr.env (run S.Pr k) [A, B, C] σ M with
    | ok vs M1 => rw [e] at h; exact h
    | exc _ _ => rw [e] at h; exact h
    | err => rw [e] at h; exact h
  refine (TF.fl (RV := fun φ H vs xs => RSs S X.base X.pn φ H vs xs) sr h).mono fun zs H1 ⟨φ1, vs, M1, R1, K1, sr1, r1, h1⟩ => ?_
  cases hd : allD vs with
  | false => unfold nodata at h1; rw [hd] at h1; exact h1.elim
  | true =>
    unfold nodata at h1
    rw [hd] at h1
    have h1 := af_tf h1
    rw [asg] at h1
    have hl := asgs_len h1
    match vs, hl, r1, h1 with
    | [v, w, u], _, .cons (x := p) r2 (.cons (x := q) r3 (.cons (x := o) r4 .nil)), h1 =>
      refine ⟨p, q, o, rfl, ?_⟩
      rw [asgs, asg] at h1
      have h1 : AF S X φ1 H1 (asgs S.Pr.env (run S.Pr k) [.var j, .var l] [w, u] (σ.set i (some v)) M1) D.nx := h1
      rw [asgs, asg] at h1
      have h1 : AF S X φ1 H1 (asgs S.Pr.env (run S.Pr k) [.var l] [u] ((σ.set i (some v)).set j (some w)) M1) D.nx := h1
      rw [asgs, asg] at h1
      have h1 : AF S X φ1 H1 (asgs S.Pr.env (run S.Pr k) [] [] (((σ.set i (some v)).set j (some w)).set l (some u)) M1) D.nx := h1
      rw [asgs] at h1
      exact h1 φ1 H1 _ R1 (Keep.refl _ _) (((sr1.set G.nd r2).set G.nd r3).set G.nd r4)
end
end Mi
end
section
set_option Elab.async false
set_option linter.all false
set_option maxRecDepth 100000
set_option maxHeartbeats 1000000
/-! S29: every checked assignment. -/
namespace Mi
open PySem PySem.Spec PyProof.Rows
open L2 (V Hp HO SqL SqT RelV upd upd_same upd_ne ne_of ne_of_none Key Cx Inv PE PT PW PA PC PS PSs TS Ends TE TT TA VK Vis Takes WX XK Room OpR Dp DpAll thn TyX TyOf ClsV Vals EP TP PO CallR Env0 frs trk FnScope AP PI TI PIE PG PGs TG TGs BlkOk PTs)
theorem fm_some {α β : Type} {f : α → Option β} : ∀ {l : List α}, (l.filterMap f).length = l.length → ∀ a ∈ l, ∃ b, f a = some b
  | [], _, a, h => by cases h
  | x :: l, hl, a, h => by
    have le := List.length_filterMap_le f l
    cases e : f x with
    | none =>
      rw [List.filterMap_cons_none e, List.length_cons] at hl
      omega
    | some b =>
      rw [List.filterMap_cons_some e, List.length_cons, List.length_cons] at hl
      rcases List.mem_cons.mp h with rfl | h
      · exact ⟨b, e⟩
      · exact fm_some (by omega) a h
/-- a name of a swapped target -/
def swF (sc : Scope) (line : Nat) : Expr → Option Str
  | .Name id pos => if sc.names.lookup id == some .local && pos.line == line then some id else none
  | _ => none
theorem swF_some {sc : Scope} {line : Nat} {e : Expr} {x : Str} (h : swF sc line e = some x) : ∃ p, e = .Name x p ∧ sc.names.lookup x = some .local := by
  unfold swF at h
  split at h
  · rename_i id pos
    split at h
    · rename_i hc
      cases h
      obtain ⟨h1, _⟩ := and2 hc
      exact ⟨_, rfl, by simpa using h1⟩
    · cases h
  · cases h
theorem comp_false {e : Expr} {tg : Expr} {l : Nat} {env : PySem.Env} (h : isComp e = false) : swapsWithSole [tg] e l env = pure false := by
  cases e <;> first | rfl | cases h
section
variable {S : Link} {k : Nat} {X : Cx} {W : WX} {L : Bool}
theorem tg_map {T : Tb} {N : List Str} {ws : Scope} {t : Tg} {tg : Expr} {env : PySem.Env} (h : chkTg T N ws t tg = true) : (assignEach [tg] env).map (·.2) = [assign tg env] := by
  rw [tg_star h]; rfl
theorem var_of {t : Tg} {x : Str} {p : Pos} (h : chkTg S.T X.N X.env.scope t (.Name x p) = true) : ∃ i, t = .var i ∧ X.N[i]? = some x := by
  cases t <;> first | (cases h; done) | skip
  exact ⟨_, rfl, (stoOk_lk h).1⟩
theorem snd_asg (C : Ctx S k) (G : Good S k X) (LO : L = true → LamOk S X) (tk : Takes X W) (hs : Sto X X.env.scope) (hkd : X.env.scope.kind = .function) {t : Tg} {A : Ex} {tg e : Expr} {pos : Pos} (h : (chkTg S.T X.N X.env.scope t tg && (chk S.T L X.N X.env.scope A e && swOk X.env.scope tg e)) = true) :
    PS X (.Assign [tg] e pos) (tSt S k X W (.asg t A)) := by
  obtain ⟨h1, hq⟩ := and2 h
  clear h
  obtain ⟨h2, h3⟩ := and2 hq
  clear hq
  have pg := g_tg C G hs t h1
  have pe := (snd_e C A G LO tk h2).1
  have hbk : X.env.blockKind = .function := by unfold Env.blockKind; rw [hkd]; rfl
  cases hc : isComp e with
  | false =>
    have hsw : swapsWithSole [tg] e pos.line X.env = pure false := comp_false hc
    cases tg with
    | Tuple ts kk p =>
      cases e with
      | Tuple vs k2 p2 =>
        have h3 : (swNone X.env.scope ts vs || swPar X.env.scope ts vs) = true := h3
        rcases Bool.or_eq_true_iff.mp h3 with h3 | h3
        · exact s_asg pe pg hsw (sw_none h3) (tg_map h1)
        · cases t <;> first | (cases h1; done) | skip
          rename_i tl
          cases A <;> first | (cases h2; done) | skip
          rename_i Al
          have h1 : chkTgs S.T X.N X.env.scope tl ts = true := h1
          obtain ⟨_, h2⟩ := and2 (show (decide (vs.length ≤ 1000) && chks S.T L X.N X.env.scope Al vs) = true from h2)
          have pes := snd_es C Al G LO tk h2
          have hst : (vs.any fun | .Starred .. => true | _ => false) = false := by
            rw [List.any_eq_false]
            intro z hz
            have : ∀ {As : List Ex} {as : List Expr}, chks S.T L X.N X.env.scope As as = true → z ∈ as → ∃ B, chk S.T L X.N X.env.scope B z = true := by
              intro As
              induction As with
              | nil => intro as h hz; cases as with
                | nil => cases hz
                | cons _ _ => cases h
              | cons B Bs ih => intro as h hz; cases as with
                | nil => cases h
                | cons b bs =>
                  obtain ⟨g1, g2⟩ := and2 (show (chk S.T L X.N X.env.scope B b && chks S.T L X.N X.env.scope Bs bs) = true from h)
                  rcases List.mem_cons.mp hz with rfl | hz
                  · exact ⟨B, g1⟩
                  · exact ih g2 hz
            obtain ⟨B, hB⟩ := this h2 hz
            cases z <;> first | exact Bool.false_ne_true | (cases B <;> cases hB)
          have hw := sw_par (k := kk) (k2 := k2) (p := p) (p2 := p2) hbk hst h3
          unfold swPar at h3
          simp only [Bool.and_eq_true] at h3
          obtain ⟨⟨⟨l1, l2⟩, l3, l4⟩, _⟩ := h3
          have l3 : (ts.filterMap (swF X.env.scope ((ts.head?.map (·.pos.line)).getD 0))).length = ts.length := by
            have : (swNames X.env.scope ts).length = ts.length := by simpa using l3
            exact this
          have l4 : (swNames X.env.scope ts).eraseDups.length = (swNames X.env.scope ts).length := by simpa using l4
          have l2 : vs.length = ts.length := by simpa using l2
          have nm := fm_some l3
          rcases Bool.or_eq_true_iff.mp l1 with l1 | l1
          · have l1 : ts.length = 2 := by simpa using l1
            have l2 : vs.length = 2 := by omega
            match ts, l1, vs, l2, h1, nm, hw, l4, pes, pg with
            | [e1, e2], _, [v1, v2], _, h1, nm, hw, l4, pes, pg =>
              obtain ⟨x1, q1⟩ := nm e1 (by simp)
              obtain ⟨x2, q2⟩ := nm e2 (by simp)
              have hn : swNames X.env.scope [e1, e2] = [x1, x2] := by
                show List.filterMap (swF X.env.scope _) [e1, e2] = _
                rw [List.filterMap_cons_some q1, List.filterMap_cons_some q2]
                rfl
              obtain ⟨p1, rfl, k1⟩ := swF_some q1
              obtain ⟨p2', rfl, k2'⟩ := swF_some q2
              rw [hn] at hw l4
              have l5 : tl.length = 2 := (tgs_each (env := X.env) h1).2.2
              match tl, l5, h1, pes with
              | [t1, t2], _, h1, pes =>
                obtain ⟨g1, g2⟩ := and2 (show (chkTg S.T X.N X.env.scope t1 (.Name x1 p1) && (chkTg S.T X.N X.env.scope t2 (.Name x2 p2') && true)) = true from h1)
                obtain ⟨g2, _⟩ := and2 g2
                obtain ⟨i, rfl, hi⟩ := var_of g1
                obtain ⟨j, rfl, hj⟩ := var_of g2
                have hne : x1 ≠ x2 := fun z => by subst z; simp [List.eraseDups_cons] at l4
                cases pes with
                | cons a1 a2 a3 a4 => cases a4 with
                  | cons b1 b2 b3 b4 => cases b4; exact s_par2 G hi hj (fun z => hne (by subst z; rw [hi] at hj; exact Option.some.inj hj)) k1 k2' (.cons a1 a2 a3 (.cons b1 b2 b3 .nil)) hw
          · have l1 : ts.length = 3 := by simpa using l1
            have l2 : vs.length = 3 := by omega
            match ts, l1, vs, l2, h1, nm, hw, l4, pes, pg with
            | [e1, e2, e3], _, [v1, v2, v3], _, h1, nm, hw, l4, pes, pg =>
              obtain ⟨x1, q1⟩ := nm e1 (by simp)
              obtain ⟨x2, q2⟩ := nm e2 (by simp)
              obtain ⟨x3, q3⟩ := nm e3 (by simp)
              have hn : swNames X.env.scope [e1, e2, e3] = [x1, x2, x3] := by
                show List.filterMap (swF X.env.scope _) [e1, e2, e3] = _
                rw [List.filterMap_cons_some q1, List.filterMap_cons_some q2, List.filterMap_cons_some q3]
                rfl
              obtain ⟨p1, rfl, k1⟩ := swF_some q1
              obtain ⟨p2', rfl, k2'⟩ := swF_some q2
              obtain ⟨p3', rfl, k3'⟩ := swF_some q3
              rw [hn] at hw l4
              have l5 : tl.length = 3 := (tgs_each (env := X.env) h1).2.2
              match tl, l5, h1, pes with
              | [t1, t2, t3], _, h1, pes =>
                obtain ⟨g1, g2⟩ := and2 (show (chkTg S.T X.N X.env.scope t1 (.Name x1 p1) && (chkTg S.T X.N X.env.scope t2 (.Name x2 p2') && (chkTg S.T X.N X.env.scope t3 (.Name x3 p3') && true))) = true from h1)
                obtain ⟨g2, g3⟩ := and2 g2
                obtain ⟨g3, _⟩ := and2 g3
                obtain ⟨i, rfl, hi⟩ := var_of g1
                obtain ⟨j, rfl, hj⟩ := var_of g2
                obtain ⟨l, rfl, hl⟩ := var_of g3
                have n12 : x1 ≠ x2 := fun z => by subst z; by_cases w : x3 = x1 <;> simp [List.eraseDups_cons, w] at l4
                have n13 : x1 ≠ x3 := fun z => by subst z; by_cases w : x2 = x1 <;> simp [List.eraseDups_cons, w] at l4
                have n23 : x2 ≠ x3 := fun z => by subst z; by_cases w : x2 = x1 <;> simp [List.eraseDups_cons, w] at l4
                cases pes with
                | cons a1 a2 a3 a4 => cases a4 with
                  | cons b1 b2 b3 b4 => cases b4 with
                    | cons c1 c2 c3 c4 =>
                      cases c4
                      exact s_par3 G hi hj hl (fun z => n12 (by subst z; rw [hi] at hj; exact Option.some.inj hj)) (fun z => n13 (by subst z; rw [hi] at hl; exact Option.some.inj hl)) (fun z => n23 (by subst z; rw [hj] at hl; exact Option.some.inj hl)) k1 k2' k3' (.cons a1 a2 a3 (.cons b1 b2 b3 (.cons c1 c2 c3 .nil))) hw
      | _ => exact s_asg pe pg hsw rfl (tg_map h1)
    | Name x p => exact s_asg pe pg hsw rfl (tg_map h1)
    | Subscript a b p => exact s_asg pe pg hsw rfl (tg_map h1)
    | Attribute a b p => exact s_asg pe pg hsw rfl (tg_map h1)
    | _ => cases t <;> cases h1
  | true =>
    cases e <;> first | (cases hc; done) | skip
    · rename_i elt gens scope p2
      cases tg with
      | Tuple ts kk p => cases h3
      | Subscript a b p => exact s_asg pe pg rfl rfl (tg_map h1)
      | Attribute a b p => exact s_asg pe pg rfl rfl (tg_map h1)
      | Name x p =>
        cases hb : (X.env.blockKind == .function && X.env.kindOf x == some .local && p.line == p2.line && !(scope.names.any fun (n, k) => n == x && (k == .local || k == .cell))) with
        | false =>
          refine s_asg pe pg ?_ rfl (tg_map h1)
          show (pure (X.env.blockKind == .function && X.env.kindOf x == some .local && p.line == p2.line && !(scope.names.any fun (n, k) => n == x && (k == .local || k == .cell))) : Sem Bool) = pure false
          rw [hb]
        | true =>
          have hsw : swapsWith (.ListComp elt gens scope p2) (some (.Name x p)) pos.line X.env = pure true := by
            show (pure (X.env.blockKind == .function && X.env.kindOf x == some .local && p.line == p2.line && !(scope.names.any fun (n, k) => n == x && (k == .local || k == .cell))) : Sem Bool) = pure true
            rw [hb]
          simp only [Bool.and_eq_true] at hb
          have hxl : X.env.scope.names.lookup x = some .local := by
            have e : X.env.kindOf x = some .local := by simpa using hb.1.1.2
            exact e
          obtain ⟨i, rfl, hi⟩ := var_of h1
          cases A <;> first | (cases h2; done) | skip
          rename_i own g
          obtain ⟨h0, h⟩ := and2 (show (!isElt g && (blkB X.N X.env.scope scope own && chkG S.T X.N own X.env.scope scope (L2.relS scope X.env.scope) g gens elt)) = true from h2)
          obtain ⟨h4, h⟩ := and2 h
          cases g with
          | elt _ => cases h0
          | loop t it ifs g =>
            cases gens with
            | nil => cases h
            | cons c gens =>
              obtain ⟨tg, iter, is, as⟩ := c
              obtain ⟨g0, h⟩ := and2 (show (decide (as = 0) && (isElt g && (t.slots.all own.contains && (chkPt X.N scope t tg && (chkIr S.T false X.N X.env.scope tg it iter && (decide (is.length ≤ 1) && (chks S.T false X.N (L2.relS scope X.env.scope) ifs is && chkG S.T X.N own (L2.relS scope X.env.scope) scope (L2.relS scope X.env.scope) g gens elt))))))) = true from h)
              obtain ⟨g1, h⟩ := and2 h
              obtain ⟨g2, h⟩ := and2 h
              obtain ⟨g3, h⟩ := and2 h
              obtain ⟨g4, h⟩ := and2 h
              obtain ⟨g5, h⟩ := and2 h
              obtain ⟨g6, g7⟩ := and2 h
              have g0 := of_decide_eq_true g0
              subst g0
              cases g with
              | loop _ _ _ _ => cases g1
              | elt E =>
                cases gens with
                | cons _ _ => cases g7
                | nil =>
                  have B := blkB_of h4
                  refine ⟨fun pins s σV H D I hh => ?_⟩
                  have hg : ∀ (s' : Shared) (H' : Hp) (C : Addr) (cl : List (Str × Addr)) (fp : List Addr), PG (bX X s' H' scope C cl fp) tg (gP S (bX X s H scope 0 [] []) t) := fun s' H' C cl fp => g_pt (S := S) (X := bX X s' H' scope C cl fp) G.nd G.K G.calm sto_blk t g3
                  have hv : tEv S k X W (.comp own (.loop t it ifs (.elt E))) σV H (fun x H1 => L2.gName i x σV H1 D.nx) := by
                    obtain ⟨φ, σ, M, Re, sr, hh⟩ := hh
                    rw [xs] at hh
                    refine ⟨φ, σ, M, Re, sr, (TF.fl (RV := RX S X) sr hh).mono fun x H1 ⟨φ1, v, M1, R1, K1, sr1, r1, h1⟩ => ?_⟩
                    have h1 : AF S X φ1 H1 (asg S.Pr.env (run S.Pr k) (Tg.var i) v σ M1) D.nx := af_tf (W := W) h1
                    rw [asg] at h1
                    exact h1 φ1 H1 _ R1 (Keep.refl _ _) (sr1.set G.nd r1)
                  have hl := e_comp1 (W := W) (elt := elt) (tg := tg) (iter := iter) (ifs := is) (pins := pins) (s := s) (s0 := s) (H0 := H) (C0 := 0) (cl0 := []) (fp0 := []) G B g2 hv
                  rw [← own_snd (N := X.N) (own := own)] at hl
                  exact (L2.ps_setLc G.calm G.nd hi hxl hsw (snd_ir C it (L := false) G (fun z => nomatch z) tk g4) B.ok hg (fun s' H' Cc cl fp => ifs_ok (of_decide_eq_true g5) (snd_es C ifs (L := false) (good_blk G) (fun z => nomatch z) noW g6)) (fun s' H' Cc cl fp => (snd_e C E (L := false) (good_blk G) (fun z => nomatch z) noW g7).1) (ir_fold g4 _)).run pins s σV H D I hl
      | _ => cases t <;> cases h1
    all_goals cases A <;> cases h2
end
end Mi
end
section
set_option Elab.async false
set_option linter.all false
set_option maxRecDepth 100000
/-! S30: op= statements. -/
namespace Mi
open PySem PySem.Spec PyProof.Rows
open L2 (V Hp HO SqL SqT RelV upd upd_same upd_ne ne_of ne_of_none Key Cx Inv PE PT PW PA PC PS PSs TS Ends TE TT TA VK Vis Takes WX XK Room OpR Dp DpAll thn TyX TyOf ClsV Vals EP TP PO CallR Env0 frs trk FnScope AP PI TI PIE PG PGs TG TGs BlkOk PTs)
section
variable {S : Link} {k : Nat} {X : Cx} {W : WX} {L : Bool} {σV : L2.St} {H H' : Hp} {φ φ' : List Addr} {M : Mem}
theorem TV.toNo {r : R Val} {Q : VK} {W' : WQ} (n : NoExc r) (h : TV S (RX S X) φ H r Q W') : TV S (RX S X) φ H r Q fun _ _ _ => False := TV.noexc n h
theorem s_augV (G : Good S k X) (hs : Sto X X.env.scope) {i : Nat} {x : Str} {op : BOp} {o : Operator} {A : Ex} {e : Expr} {p pos : Pos} (h1 : stoOk X.N X.env.scope i x = true) (h2 : varOk X.N X.env.scope i x = true) (h3 : chkB op o = true) (he : PE X e (tEv S k X W A)) :
    PS X (.AugAssign (.Name x p) o e pos) (tSt S k X W (.augV i op A)) := by
  obtain ⟨a1, a2⟩ := stoOk_lk h1
  obtain ⟨a3, a4⟩ := hs x a2
  obtain ⟨b1, b2, _, _⟩ := varOk_of h2
  refine PS_imp (L2.ps_aug (ti := rO S X (augop op)) G.nd a1 a3 he (op_aug G h3) a4) fun D σV H ⟨φ, σ, M, Re, sr, h⟩ => ?_
  rw [xs] at h
  split at h
  · rename_i v ev'
    obtain ⟨y, e2, r⟩ := sr.at_ i x v ev' b1 b2
    refine ⟨y, e2, φ, σ, M, Re, sr, (TF.fl (RV := RX S X) sr h).mono fun z H1 ⟨φ1, w, M1, R1, K1, sr1, r1, h1⟩ => ?_⟩
    refine ⟨φ1, M1, v, w, R1, RS.mono K1 r, r1, ?_⟩
    exact TV.toNo augop_ne ((TF.fl (RV := RX S X) sr1 h1).mono fun u H2 ⟨φ2, q, M2, R2, K2, sr2, r2, h2⟩ => h2 φ2 H2 _ R2 (Keep.refl _ _) (sr2.set G.nd r2))
  · exact h.elim
theorem s_augF (C : Ctx S k) (G : Good S k X) {f : Nm} {n : Str} {op : BOp} {o : Operator} {A B : Ex} {a e : Expr} {p pos : Pos} (hf : S.T.names[f]? = some n) (h3 : chkB op o = true) (ha : PE X a (tEv S k X W A)) (he : PE X e (tEv S k X W B)) :
    PS X (.AugAssign (.Attribute a n p) o e pos) (tSt S k X W (.augF A f op B)) := by
  refine PS_imp (L2.ps_fldaug (rd := rO S X (augop op)) ha he (fun pins s σ H x y u v Q I r1 r2 h => op_aug G h3 pins s σ H x y u v Q I r1 r2 h)) fun D σV H ⟨φ, σ, M, Re, sr, h⟩ => ?_
  rw [xs] at h
  refine ⟨φ, σ, M, Re, sr, (TF.fl (RV := RX S X) sr h).mono fun x H1 ⟨φ1, v, M1, R1, K1, sr1, r1, h1⟩ => ?_⟩
  split at h1
  · rename_i m
    split at h1
    · rename_i c fs em
      split at h1
      · rename_i y ey
        split at h1
        · rename_i hfl
          obtain ⟨q, rfl, hq⟩ := r1.ref_
          obtain ⟨sn, Cc, dx, ys, i0, f1, f2, f3, f4⟩ := R1.ins hq em
          obtain ⟨yx, l, ry⟩ := f4.lookup G.names hf ey
          rw [G.K]
          refine ⟨q, Cc, dx, ys, yx, rfl, f3, (C.F.kit c sn Cc f1 f2 i0).2.1, C.F.fld c sn Cc f n f1 f2 i0 hfl hf, l, φ1, σ, M1, R1, sr1, (TF.fl (RV := RX S X) sr1 h1).mono fun z H2 ⟨φ2, w, M2, R2, K2, sr2, r2, h2⟩ => ?_⟩
          refine ⟨φ2, M2, y, w, R2, .d ry.isD (ry.mono K2), r2, ?_⟩
          refine TV.toNo augop_ne ((TF.fl (RV := RX S X) sr2 h2).mono fun u H3 ⟨φ3, t, M3, R3, K3, sr3, r3, h3⟩ => ?_)
          split at h3
          · rename_i hsc
            split at h3
            · rename_i M4 es
              obtain ⟨m', c', fs', e0, e1, e2, e3, rfl⟩ := setF_some es
              cases e0
              have hcc : c' = c := by
                unfold sameCls at hsc
                dsimp only at hsc
                rw [e1] at hsc
                exact of_decide_eq_true hsc
              subst hcc
              have hq3 := K3.get (K2.get hq)
              obtain ⟨sn', Cc', dx', ys', i0', g1, g2, g3, g4⟩ := R3.ins hq3 e1
              rw [f1] at g1; cases g1
              rw [f2] at g2; cases g2
              obtain ⟨K, R4⟩ := R3.fld G hq3 i0' f1 f2 g3 g4 hf (r3.data e2)
              exact ⟨dx', ys', g3, by rw [← g4.length]; omega, h3 φ3 _ σV R4 K (sr3.mono K)⟩
            · exact h3.elim
          · exact h3.elim
        · exact h1.elim
      · exact h1.elim
    · exact h1.elim
  · exact h1.elim
def rGet (K : PySem.W.Frag) : V → V → Hp → VK → Prop := fun x y H Q => ∃ p xs i v, x = .ref p ∧ y = .int i ∧ SqL K H p xs ∧ L2.atI xs i = some v ∧ Q v H
theorem get_list : L2.PGet X (rGet X.K) := by
  intro pins s σ H x y v u Q I rx ry h
  obtain ⟨p, xs, i, z, rfl, rfl, hq, he, q⟩ := h
  cases rx
  obtain ⟨t, rfl⟩ := ry
  obtain ⟨its, r, pl, hz⟩ := I.list hq
  obtain ⟨j, h1, h2, h3, h4, h5⟩ := L2.atI_get he
  obtain ⟨w, ew, rw'⟩ := r.get h2
  have hl := r.length
  have hn := L2.line63
  have fin : EP X pins σ Q w s := ⟨z, H, I, rw', q⟩
  by_cases h0 : 0 ≤ i
  · have hj : i.toNat = j := by
      rw [PySem.seqIndex_of h0 h5] at h1
      exact Option.some.inj h1
    exact wpAny_getItem_list pl.isList h0 (by omega) (by rw [hj]; simpa using ew) fin
  · have hj : (i + (its.toArray.size : Int)).toNat = j := by
      rw [PySem.seqIndex_neg (by omega) h4] at h1
      rw [List.size_toArray, ← hl]
      exact Option.some.inj h1
    exact wpAny_getItem_list_neg pl.isList (by omega) (by rw [List.size_toArray] <;> omega) (by omega) (by rw [hj]; simpa using ew) fin
theorem s_augS (C : Ctx S k) (G : Good S k X) {op : BOp} {o : Operator} {A J B : Ex} {a j e : Expr} {p pos : Pos} (h3 : chkB op o = true) (ha : PE X a (tEv S k X W A)) (hj : PE X j (tEv S k X W J)) (he : PE X e (tEv S k X W B)) (hst : ∀ ov iv new, augStore j ov iv new = (do holding [new, ov, iv] (setItem ov iv new); release [new, ov, iv] []; pure .next)) :
    PS X (.AugAssign (.Subscript a j p) o e pos) (tSt S k X W (.augS A J op B)) := by
  refine PS_imp (L2.ps_augS (tip := rO S X (augop op)) ha hj get_list he (op_aug G h3) L2.set_list hst) fun D σV H ⟨φ, σ, M, Re, sr, h⟩ => ?_
  rw [xs] at h
  refine ⟨φ, σ, M, Re, sr, (TF.fl (RV := RX S X) sr h).mono fun x H1 ⟨φ1, v, M1, R1, K1, sr1, r1, h1⟩ => ⟨φ1, σ, M1, R1, sr1, (TF.fl (RV := RX S X) sr1 h1).mono fun y H2 ⟨φ2, w, M2, R2, K2, sr2, r2, h2⟩ => ?_⟩⟩
  split at h2
  · rename_i z ez
    unfold itemL at ez
    split at ez
    · rename_i n i
      split at ez
      · rename_i vs em
        obtain ⟨q, rfl, hq⟩ := (RS.mono K2 r1).ref_
        obtain ⟨xs', hx, rxs⟩ := R2.lst hq (lsOf_lst em)
        obtain ⟨zx, ezx, rz⟩ := rxs.atI ez
        rw [r2.int_]
        refine ⟨q, xs', _, zx, rfl, rfl, .of hx, ezx, φ2, σ, M2, R2, sr2, (TF.fl (RV := RX S X) sr2 h2).mono fun u H3 ⟨φ3, t, M3, R3, K3, sr3, r3, h3⟩ => ?_⟩
        refine ⟨φ3, M3, z, t, R3, .d rz.isD (rz.mono K3), r3, ?_⟩
        refine TV.toNo augop_ne ((TF.fl (RV := RX S X) sr3 h3).mono fun g H4 ⟨φ4, c, M4, R4, K4, sr4, r4, h4⟩ => ?_)
        split at h4
        · rename_i M5 es
          obtain ⟨n', jj, xs5, qq, e0, e1, e2, e3, e4, rfl⟩ := setIx_some es
          cases e0
          cases e1
          have hq4 := K4.get (K3.get hq)
          obtain ⟨ys, hy, rys⟩ := R4.lst hq4 e2
          have K : Keep φ4 φ4 H4 (upd H4 q (.lst (ys.set qq g))) := keep_set (List.mem_of_getElem? hq4) hy (fun z => z)
          obtain ⟨K, R5⟩ := R4.set hq4 (.lst upd_same ((rys.set (r4.data e4) qq).mono K))
          exact ⟨q, ys, _, qq, rfl, rfl, hy, by rw [← rys.length]; exact e3, h4 φ4 _ σV R5 K (sr4.mono K)⟩
        · exact h4.elim
      · cases ez
    · cases ez
  · exact h2.elim
end
end Mi
end
section
set_option Elab.async false
set_option linter.all false
set_option maxRecDepth 100000
set_option maxHeartbeats 1000000
/-! S31: every checked statement is sound. -/
namespace Mi
open PySem PySem.Spec PyProof.Rows
open L2 (V Hp HO SqL SqT RelV upd upd_same upd_ne ne_of ne_of_none Key Cx Inv PE PT PW PA PC PS PSs TS Ends TE TT TA VK Vis Takes WX XK Room OpR Dp DpAll thn TyX TyOf ClsV Vals EP TP PO CallR Env0 frs trk FnScope AP PI TI PIE PG PGs TG TGs BlkOk PTs)
/-- a def's body, here -/
structure DX (S : Link) (k : Nat) (X : Cx) (W : WX) (L : Bool) : Prop where
  G : Good S k X
  LO : L = true → LamOk S X
  tk : Takes X W
  pw : PassesOwn (model X.prog X.w) X.A X.env X.xe
  st : Sto X X.env.scope
  kd : X.env.scope.kind = .function
  sk : X.stack = X.env :: X.outer
  fr : X.env.frame = some X.env.locals
/-- what is asked of raise, of try -/
structure RTOk (S : Link) (k : Nat) : Prop where
  rse : ∀ {X : Cx} {W : WX} {L : Bool} {c : Nm} {as : List Ex} {x : Str} {xs : List Expr} {p1 p2 pos : Pos}, DX S k X W L → gloOk S.T X.env.scope c x = true → PEs S k X W as xs → PS X (.Raise (some (.Call (.Name x p1) xs [] p2)) none pos) (tSt S k X W (.rse c as))
  try_ : ∀ {X : Cx} {W : WX} {L : Bool} {b : List St} {hs : List (Nm × Option Nat × List St)} {body : List Stmt} {hds : List ExceptHandler} {pos : Pos}, DX S k X W L →
    (∀ (W' : WX) (pn : List (Addr × PySem.Obj)) (xe : Value → Shared → Prop), DX S k (X.tr pn xe) W' L → PSs (X.tr pn xe) body (tSs S k (X.tr pn xe) W' b)) → chkHs S.T X.N X.env.scope hs hds = true → PS X (.Try body hds [] [] pos) (tSt S k X W (.try b hs))
variable {S : Link} {k : Nat}
mutual
theorem snd_st (C : Ctx S k) (RT : RTOk S k) : ∀ (a : St) {X : Cx} {W : WX} {L : Bool} {st : Stmt}, DX S k X W L → chkSt S.T L X.N X.env.scope a st = true → PS X st (tSt S k X W a)
  | .asg t e, X, W, L, st, D, h => by
    cases st <;> first | (cases h; done) | skip
    rename_i tgs v pos
    cases tgs with
    | nil => cases h
    | cons tg tgs =>
      cases tgs with
      | cons _ _ => cases h
      | nil => exact snd_asg C D.G D.LO D.tk D.st D.kd h
  | .augV i op e, X, W, L, st, D, h => by
    cases st <;> first | (cases h; done) | skip
    rename_i tg o v pos
    cases tg <;> first | (cases h; done) | skip
    rename_i x p
    obtain ⟨h1, h⟩ := and2 (show (stoOk X.N X.env.scope i x && (varOk X.N X.env.scope i x && (chkB op o && chk S.T L X.N X.env.scope e v))) = true from h)
    obtain ⟨h2, h⟩ := and2 h
    obtain ⟨h3, h4⟩ := and2 h
    exact s_augV D.G D.st h1 h2 h3 (snd_e C e D.G D.LO D.tk h4).1
  | .augF a f op e, X, W, L, st, D, h => by
    cases st <;> first | (cases h; done) | skip
    rename_i tg o v pos
    cases tg <;> first | (cases h; done) | skip
    rename_i x n p
    obtain ⟨h1, h⟩ := and2 (show (decide (S.T.names[f]? = some n) && (noSup x && (chk S.T false X.N X.env.scope a x && (chkB op o && chk S.T L X.N X.env.scope e v)))) = true from h)
    obtain ⟨h2, h⟩ := and2 h
    obtain ⟨h3, h⟩ := and2 h
    obtain ⟨h4, h5⟩ := and2 h
    exact s_augF C D.G (of_decide_eq_true h1) h4 (snd_e C a (L := false) D.G (fun z => nomatch z) D.tk h3).1 (snd_e C e D.G D.LO D.tk h5).1
  | .augS a i op e, X, W, L, st, D, h => by
    cases st <;> first | (cases h; done) | skip
    rename_i tg o v pos
    cases tg <;> first | (cases h; done) | skip
    rename_i x y p
    obtain ⟨h1, h⟩ := and2 (show (chk S.T false X.N X.env.scope a x && (chk S.T false X.N X.env.scope i y && (chkB op o && chk S.T L X.N X.env.scope e v))) = true from h)
    obtain ⟨h2, h⟩ := and2 h
    obtain ⟨h3, h4⟩ := and2 h
    refine s_augS C D.G h3 (snd_e C a (L := false) D.G (fun z => nomatch z) D.tk h1).1 (snd_e C i (L := false) D.G (fun z => nomatch z) D.tk h2).1 (snd_e C e D.G D.LO D.tk h4).1 ?_
    intro ov iv new
    cases y <;> first | rfl | (cases i <;> cases h2)
  | .ret e, X, W, L, st, D, h => by
    cases st <;> first | (cases h; done) | skip
    rename_i v pos
    cases e with
    | none =>
      cases v with
      | none => exact s_retN
      | some _ => cases h
    | some e =>
      cases v with
      | none => cases h
      | some v => exact s_ret (snd_e C e D.G D.LO D.tk h).1
  | .ex e, X, W, L, st, D, h => by
    cases st <;> first | (cases h; done) | skip
    rename_i v pos
    obtain ⟨h1, h2⟩ := and2 (show (!isComp v && chk S.T L X.N X.env.scope e v) = true from h)
    exact s_ex (by simpa using h1) (snd_e C e D.G D.LO D.tk h2).1
  | .ifs c a b, X, W, L, st, D, h => by
    cases st <;> first | (cases h; done) | skip
    rename_i x y z pos
    obtain ⟨h1, h⟩ := and2 (show (chk S.T L X.N X.env.scope c x && (chkSs S.T L X.N X.env.scope a y && chkSs S.T L X.N X.env.scope b z)) = true from h)
    obtain ⟨h2, h3⟩ := and2 h
    exact s_if (snd_e C c D.G D.LO D.tk h1).2 (snd_ss C RT a D h2) (snd_ss C RT b D h3)
  | .for t it b, X, W, L, st, D, h => by
    cases st <;> first | (cases h; done) | skip
    rename_i tg iter body els pos
    cases els <;> first | (cases h; done) | skip
    obtain ⟨h1, h⟩ := and2 (show (chkPt X.N X.env.scope t tg && (chkIr S.T L X.N X.env.scope tg it iter && chkSs S.T L X.N X.env.scope b body)) = true from h)
    obtain ⟨h2, h3⟩ := and2 h
    exact s_for D.G D.pw D.st h1 (snd_ir C it D.G D.LO D.tk h2) (ir_fold h2 _) (snd_ss C RT b D h3)
  | .whl c b, X, W, L, st, D, h => by
    cases st <;> first | (cases h; done) | skip
    rename_i x body els pos
    cases els <;> first | (cases h; done) | skip
    obtain ⟨h1, h2⟩ := and2 (show (chk S.T L X.N X.env.scope c x && chkSs S.T L X.N X.env.scope b body) = true from h)
    exact s_whl D.pw (snd_e C c D.G D.LO D.tk h1).2 (snd_ss C RT b D h2)
  | .rse c as, X, W, L, st, D, h => by
    cases st <;> first | (cases h; done) | skip
    rename_i e cz pos
    cases e with
    | none => cases h
    | some e =>
      cases e <;> first | (cases h; done) | skip
      rename_i f xs ks p2
      cases f <;> first | (cases h; done) | skip
      cases ks <;> first | (cases h; done) | skip
      cases cz <;> first | (cases h; done) | skip
      rename_i x p1
      obtain ⟨h1, h2⟩ := and2 (show (gloOk S.T X.env.scope c x && chks S.T false X.N X.env.scope as xs) = true from h)
      exact RT.rse D h1 (snd_es C as (L := false) D.G (fun z => nomatch z) D.tk h2)
  | .try b hs, X, W, L, st, D, h => by
    cases st <;> first | (cases h; done) | skip
    rename_i body hds els fin pos
    cases els <;> first | (cases h; done) | skip
    cases fin <;> first | (cases h; done) | skip
    obtain ⟨h1, h2⟩ := and2 (show (chkSs S.T L X.N X.env.scope b body && chkHs S.T X.N X.env.scope hs hds) = true from h)
    exact RT.try_ D (fun W' pn xe D' => snd_ss C RT b D' h1) h2
  | .pass, X, W, L, st, D, h => by
    cases st <;> first | (cases h; done) | skip
    exact s_pass
  | .brk, X, W, L, st, D, h => by
    cases st <;> first | (cases h; done) | skip
    exact s_brk
  | .cnt, X, W, L, st, D, h => by
    cases st <;> first | (cases h; done) | skip
    exact s_cnt
theorem snd_ss (C : Ctx S k) (RT : RTOk S k) : ∀ (as : List St) {X : Cx} {W : WX} {L : Bool} {sts : List Stmt}, DX S k X W L → chkSs S.T L X.N X.env.scope as sts = true → PSs X sts (tSs S k X W as)
  | [], X, W, L, sts, D, h => by
    cases sts with
    | nil => exact ss_nil
    | cons _ _ => cases h
  | a :: as, X, W, L, sts, D, h => by
    cases sts with
    | nil => cases h
    | cons st sts =>
      obtain ⟨h1, h2⟩ := and2 (show (chkSt S.T L X.N X.env.scope a st && chkSs S.T L X.N X.env.scope as sts) = true from h)
      exact ss_cons (snd_st C RT a D h1) (snd_ss C RT as D h2)
end
end Mi
end
section
set_option Elab.async false
set_option linter.all false
set_option maxRecDepth 100000
set_option maxHeartbeats 1000000
/-! S32: a def's run. -/
namespace Mi
open PySem PySem.Spec PyProof.Rows
open L2 (V Hp HO SqL SqT RelV upd upd_same upd_ne ne_of ne_of_none Key Cx Inv PE PT PW PA PC PS PSs TS Ends TE TT TA VK Vis Takes WX XK Room OpR Dp DpAll thn TyX TyOf ClsV Vals EP TP PO CallR Env0 frs trk FnScope AP PI TI PIE PG PGs TG TGs BlkOk PTs)
variable {S : Link} {k : Nat}
theorem cellsFrom_ge {n0 : Nat} : ∀ {names : List (Str × NameKind)} {n : Nat} {acc : List (Str × Addr)}, (∀ p ∈ acc, n0 ≤ p.2) → n0 ≤ n → ∀ p ∈ cellsFrom n names acc, n0 ≤ p.2
  | [], _, _, h, _, p, hp => h p hp
  | (m, kd) :: r, n, acc, h, hn, p, hp => by
    unfold cellsFrom at hp
    split at hp
    · exact cellsFrom_ge (acc := (m, n) :: acc) (fun q hq => by
        rcases List.mem_cons.mp hq with e | hq
        · rw [e]; exact hn
        · exact h q hq) (Nat.le_succ_of_le hn) p hp
    · exact cellsFrom_ge h hn p hp
theorem RSs.get {base : Heap} {pn : List (Addr × PySem.Obj)} {φ : List Addr} {H : Hp} : ∀ {vs : List Val} {xs : List V} {i : Nat} {v : Val}, RSs S base pn φ H vs xs → vs[i]? = some v → ∃ x, xs[i]? = some x ∧ RS S base pn φ H v x
  | _, _, _, _, .nil, e => by simp at e
  | _, _, 0, _, .cons r _, e => by simp at e; subst e; exact ⟨_, rfl, r⟩
  | _, _, i + 1, v, .cons _ t, e => by
    obtain ⟨x, h1, h2⟩ := RSs.get (i := i) (v := v) t (by simpa using e)
    exact ⟨x, by simpa using h1, h2⟩
/-- what stands still: the names, the built-ins' names -/
structure LinkOk (S : Link) : Prop where
  names : S.T.names.Nodup
  free : ∀ x ∈ S.T.free, S.mg x = none
theorem run_fn (C : Ctx S k) (RT : RTOk S k) (LK : LinkOk S) (base : Heap) (GB : GoodB S base) : RunFn S (k + 1) base := by
  intro d f fd N L CF A outer s H args us vs Q E φ M ws hr e0 hb rv Re ra h
  obtain ⟨x, qual, params, body, scope, oc, od, dV, kV, doc, pm, an, cdv, ct, osl, dvs, rfl, lk, hcd, hD, hR, hS, hc, hL⟩ := CF.ex
  have hnp : params.args.length = d.np := CF.np
  have hnl := CF.nl
  have h : TV S (RD0 S) φ H (runB S.Pr.env (run S.Pr k) d ws M) Q E := h
  unfold runB at h
  by_cases hl : ws.length = d.np
  · rw [decide_eq_true hl] at h
    have hpl : (params.args.map (·.arg)).length = d.np := by rw [List.length_map]; exact hnp
    have hpn : d.np ≤ N.length := by
      have := congrArg List.length hS.pre
      rw [List.length_take] at this
      omega
    have l1 := ra.length
    refine LamX.run_ofS (N := N) (ps := params.args.map (·.arg)) (us := us) (vs := vs) lk hcd hS (show Room ((2 * k + 1) + 1) A from hr) e0 hb rv (by omega) fun hr' => ?_
    let X := L2.cxOf (L2.CX S.P S.w) S.P S.w S.K S.mg base N qual scope f cdv A outer s H E
    have D : DX S k X (fun cls d _ H => E cls d H) L := {
      G := ⟨rfl, rfl, rfl, rfl, hS.nd, LK.names, rfl, hr', GB, LK.free⟩
      LO := fun hl => by
        obtain ⟨c, P, e1, e2⟩ := hL hl
        refine ⟨⟨c, P, e1, e2⟩, fun y c hc hm => ?_⟩
        have h1 : s.heap.objs.size + 1 ≤ c := cellsFrom_ge (acc := []) (fun p hp => nomatch hp) (Nat.le_refl _) (y, c) (PySem.mem_of_lookup (show (cellsFrom (s.heap.objs.size + 1) scope.names []).lookup y = some c from hc))
        obtain ⟨_, o, ho, _⟩ := e0.funs.mem (show c ∈ frs outer from hm)
        exact absurd (Nat.lt_of_lt_of_le (Heap.lt_size ho) (Nat.le_of_succ_le h1)) (Nat.lt_irrefl _)
      tk := L2.takes_of rfl rfl rfl rfl
      pw := L2.passes_of rfl
      st := fun x hx => by
        refine ⟨?_, .inl rfl⟩
        have hx : locK (scope.names.lookup x) = true := hx
        unfold locK at hx
        split at hx
        · rename_i q; exact .inl q
        · rename_i q; exact .inr q
        · cases hx
      kd := hS.kind
      sk := rfl
      fr := rfl }
    refine ⟨_, snd_ss C RT d.body D hc, φ, ws.map some ++ List.replicate (d.n - d.np) none, M, Re, ?_, ?_⟩
    · refine ⟨?_, ?_, fun i y v e1 e2 e3 => ?_⟩
      · show _ = N.length
        rw [List.length_append, List.length_map, List.length_replicate]; omega
      · show (L2.start N vs).length = N.length
        unfold L2.start
        rw [List.length_append, List.length_map, List.length_replicate]; omega
      · have hi : i < ws.length := by
          refine Nat.lt_of_not_le fun hge => ?_
          rw [List.getElem?_append_right (by rw [List.length_map]; exact hge)] at e1
          have := List.mem_of_getElem? e1
          have := List.eq_of_mem_replicate this
          cases this
        rw [List.getElem?_append_left (by rw [List.length_map]; exact hi), List.getElem?_map, Option.map_eq_some_iff] at e1
        obtain ⟨w, e4, e5⟩ := e1
        cases e5
        obtain ⟨z, e6, r⟩ := ra.get e4
        refine ⟨z, ?_, r⟩
        unfold L2.start
        rw [List.getElem?_append_left (by rw [List.length_map, ← l1]; exact hi), List.getElem?_map, e6]
        rfl
    · have h : TV S (RD0 S) φ H (match xss S.Pr.env (run S.Pr k) d.body (ws.map some ++ List.replicate (d.n - d.np) none) M with
        | .nx _ M1 => R.ok Val.non M1
        | .rt v _ M1 => match v.isD with
          | true => .ok v M1
          | false => .err
        | .exc x _ M1 => .exc x M1
        | _ => .err) Q E := h
      show TF S X _ φ H (xss S.Pr.env (run S.Pr k) d.body (ws.map some ++ List.replicate (d.n - d.np) none) M) _
      cases e : xss S.Pr.env (run S.Pr k) d.body (ws.map some ++ List.replicate (d.n - d.np) none) M with
      | nx σ1 M1 => rw [e] at h; exact fun φ' H' σV' R K _ => h φ' H' .non R K .non
      | rt v σ1 M1 =>
        rw [e] at h
        cases hd : v.isD with
        | false =>
          have h : TV S (RD0 S) φ H (match v.isD with | true => R.ok v M1 | false => .err) Q E := h
          rw [hd] at h; exact h.elim
        | true =>
          have h : TV S (RD0 S) φ H (match v.isD with | true => R.ok v M1 | false => .err) Q E := h
          rw [hd] at h
          exact fun φ' H' x R K r => h φ' H' x R K (RS.data r hd)
      | exc x σ1 M1 => rw [e] at h; exact fun φ' H' σV' C s d ys R K _ => h φ' H' C s d ys R K
      | bk σ1 M1 => rw [e] at h; exact h.elim
      | ct σ1 M1 => rw [e] at h; exact h.elim
      | err => rw [e] at h; exact h.elim
  · rw [decide_eq_false hl] at h
    exact h.elim
end Mi
end
section
set_option Elab.async false
set_option linter.all false
set_option maxRecDepth 100000
set_option maxHeartbeats 1000000
/-! S33: a closure's run. -/
namespace Mi
open PySem PySem.Spec PyProof.Rows
open L2 (V Hp HO SqL SqT RelV upd upd_same upd_ne ne_of ne_of_none Key Cx Inv PE PT PW PA PC PS PSs TS Ends TE TT TA VK Vis Takes WX XK Room OpR Dp DpAll thn TyX TyOf ClsV Vals EP TP PO CallR Env0 frs trk FnScope AP PI TI PIE PG PGs TG TGs BlkOk PTs)
variable {S : Link} {k : Nat}
theorem lookup_nd {α : Type} : ∀ {l : List (Str × α)} {y : Str} {u : α}, (l.map (·.1)).Nodup → (y, u) ∈ l → l.lookup y = some u
  | (a, b) :: r, y, u, n, h => by
    rw [List.lookup_cons]
    rcases List.mem_cons.mp h with e | h
    · cases e; simp
    · have hm : y ∈ r.map (·.1) := List.mem_map_of_mem (f := (·.1)) h
      have e' : (y == a) = false := beq_eq_false_iff_ne.mpr fun z => (List.nodup_cons.mp n).1 (by rw [← z]; exact hm)
      rw [e']
      exact lookup_nd (List.nodup_cons.mp n).2 h
def setV (σ : L2.St) : List Nat → List V → L2.St
  | i :: is, v :: vs => setV (σ.set i (some v)) is vs
  | _, _ => σ
theorem setV_len {σ : L2.St} : ∀ {is : List Nat} {vs : List V}, (setV σ is vs).length = σ.length
  | [], _ => by unfold setV; rfl
  | _ :: _, [] => by unfold setV; rfl
  | i :: is, v :: vs => by unfold setV; rw [setV_len, List.length_set]
theorem setAll_len {σ : Sl} : ∀ {is : List Nat} {vs : List Val}, (setAll σ is vs).length = σ.length
  | [], _ => by unfold setAll; rfl
  | _ :: _, [] => by unfold setAll; rfl
  | i :: is, v :: vs => by unfold setAll; rw [setAll_len, List.length_set]
theorem setV_out {i : Nat} : ∀ {is : List Nat} {vs : List V} {σ : L2.St}, i ∉ is → (setV σ is vs)[i]? = σ[i]?
  | [], _, _, _ => by unfold setV; rfl
  | _ :: _, [], _, _ => by unfold setV; rfl
  | j :: is, v :: vs, σ, h => by
    unfold setV
    simp only [List.mem_cons, not_or] at h
    rw [setV_out h.2, List.getElem?_set_ne fun z => h.1 z.symm]
theorem setAll_out {i : Nat} : ∀ {is : List Nat} {vs : List Val} {σ : Sl}, i ∉ is → (setAll σ is vs)[i]? = σ[i]?
  | [], _, _, _ => by unfold setAll; rfl
  | _ :: _, [], _, _ => by unfold setAll; rfl
  | j :: is, v :: vs, σ, h => by
    unfold setAll
    simp only [List.mem_cons, not_or] at h
    rw [setAll_out h.2, List.getElem?_set_ne fun z => h.1 z.symm]
theorem setV_in {i j : Nat} {v : V} : ∀ {is : List Nat} {vs : List V} {σ : L2.St}, is.Nodup → is[j]? = some i → vs[j]? = some v → i < σ.length → (setV σ is vs)[i]? = some (some v)
  | [], _, _, _, h, _, _ => by simp at h
  | _ :: _, [], _, _, _, h, _ => by simp at h
  | a :: is, b :: vs, σ, n, h1, h2, hl => by
    unfold setV
    cases j with
    | zero =>
      simp at h1 h2
      subst h1 h2
      rw [setV_out (List.nodup_cons.mp n).1]
      exact List.getElem?_set_self hl
    | succ j => exact setV_in (List.nodup_cons.mp n).2 (by simpa using h1) (by simpa using h2) (by rw [List.length_set]; exact hl)
theorem setAll_in {i j : Nat} {v : Val} : ∀ {is : List Nat} {vs : List Val} {σ : Sl}, is.Nodup → is[j]? = some i → vs[j]? = some v → i < σ.length → (setAll σ is vs)[i]? = some (some v)
  | [], _, _, _, h, _, _ => by simp at h
  | _ :: _, [], _, _, _, h, _ => by simp at h
  | a :: is, b :: vs, σ, n, h1, h2, hl => by
    unfold setAll
    cases j with
    | zero =>
      simp at h1 h2
      subst h1 h2
      rw [setAll_out (List.nodup_cons.mp n).1]
      exact List.getElem?_set_self hl
    | succ j => exact setAll_in (List.nodup_cons.mp n).2 (by simpa using h1) (by simpa using h2) (by rw [List.length_set]; exact hl)
/-- the slots at a closure's start -/
noncomputable def clV (N : List Str) (scope : Scope) (σ : Sl) (XX : Nat → V) : L2.St := (List.range N.length).map fun i => @ite _ (∃ y v, N[i]? = some y ∧ σ[i]? = some (some v) ∧ scope.names.lookup y = some .free) (Classical.propDecidable _) (some (XX i)) none
theorem clV_len {N : List Str} {scope : Scope} {σ : Sl} {XX : Nat → V} : (clV N scope σ XX).length = N.length := by
  unfold clV
  rw [List.length_map, List.length_range]
theorem clV_some {N : List Str} {scope : Scope} {σ : Sl} {XX : Nat → V} {i : Nat} {x : V} (h : (clV N scope σ XX)[i]? = some (some x)) : ∃ y v, N[i]? = some y ∧ σ[i]? = some (some v) ∧ scope.names.lookup y = some .free ∧ x = XX i := by
  unfold clV at h
  rw [List.getElem?_map, Option.map_eq_some_iff] at h
  obtain ⟨j, hj, e⟩ := h
  have : j = i := by
    obtain ⟨h1, h2⟩ := List.getElem?_eq_some_iff.mp hj
    simpa using h2.symm
  subst this
  split at e
  · rename_i hc
    obtain ⟨y, v, a, b, c⟩ := hc
    cases e
    exact ⟨y, v, a, b, c, rfl⟩
  · cases e
theorem clV_at {N : List Str} {scope : Scope} {σ : Sl} {XX : Nat → V} {i : Nat} {y : Str} {v : Val} (h1 : N[i]? = some y) (h2 : σ[i]? = some (some v)) (h3 : scope.names.lookup y = some .free) : (clV N scope σ XX)[i]? = some (some (XX i)) := by
  unfold clV
  have hi : i < N.length := (List.getElem?_eq_some_iff.mp h1).1
  rw [List.getElem?_map, List.getElem?_range hi]
  exact congrArg some (if_pos ⟨y, v, h1, h2, h3⟩)
/-- the context of a closure's body -/
def clX (S : Link) (base : Heap) (N : List Str) (q : Str) (scope : Scope) (cl : List (Str × Addr)) (f c' : Addr) (A : Around) (outer : List PySem.Env) (s : Shared) (H : Hp) (E : XK) : Cx where
  prog := S.P
  w := S.w
  K := S.K
  mg := S.mg
  base := base
  A := A.deeper (PySem.W.envX q scope s.heap.objs.size f (.ref c') cl)
  N := N
  s_0 := s
  H_0 := H
  env := PySem.W.envX q scope s.heap.objs.size f (.ref c') cl
  outer := outer
  stack := PySem.W.envX q scope s.heap.objs.size f (.ref c') cl :: outer
  ex := []
  fn := fun _ => false
  calm := true
  pn := []
  xe := fun e s' => wpAny (model S.P S.w) (A.deeper (PySem.W.envX q scope s.heap.objs.size f (.ref c') cl)) (leaving (PySem.W.envX q scope s.heap.objs.size f (.ref c') cl) e) (fun _ s'' => L2.CX S.P S.w outer H s E e s'') (fun e' s'' => L2.CX S.P S.w outer H s E e' s'') s'
theorem ps_nodup {N : List Str} {sc scope : Scope} {ps : List Nat} {a : Arguments} (L : LamB N sc scope ps a) : ps.Nodup := by
  have h := L.nd
  have e := L.pn
  have : (ps.map fun i => N[i]?).Nodup := by
    rw [e]
    have : (a.args.map fun z => some z.arg) = (a.args.map (·.arg)).map some := by rw [List.map_map]; rfl
    rw [this]
    exact List.Pairwise.map some (fun x y hxy z => hxy (Option.some.inj z)) h
  exact List.Pairwise.of_map (fun i => N[i]?) (fun a b h z => h (by rw [z])) this
theorem ps_at {N : List Str} {sc scope : Scope} {ps : List Nat} {a : Arguments} (L : LamB N sc scope ps a) {j : Nat} {y : Str} (h : (a.args.map (·.arg))[j]? = some y) : ∃ i, ps[j]? = some i ∧ N[i]? = some y := by
  have e : (ps.map fun i => N[i]?)[j]? = some (some y) := by
    rw [L.pn, List.getElem?_map]
    rw [List.getElem?_map] at h
    cases q : a.args[j]? with
    | none => rw [q] at h; cases h
    | some z => rw [q] at h; cases h; rfl
  rw [List.getElem?_map, Option.map_eq_some_iff] at e
  obtain ⟨i, h1, h2⟩ := e
  exact ⟨i, h1, h2⟩
theorem run_clo (C : Ctx S k) (LK : LinkOk S) (base : Heap) (GB : GoodB S base) : RunClo S (k + 1) base := by
  intro ps b σ f A outer s H us vs Q E φ M ws hr e0 rc rv Re ra h
  have h : TV S (RD0 S) φ H (runC S.Pr.env (run S.Pr k) ps b σ ws M) Q E := h
  cases rc with
  | d h0 _ => cases h0
  | @clo _ _ _ _ _ _ N sc scope q a body cl pm ct _ c' XX nd hσ hl hc hf hcd inj bs fr cells rs =>
    have LB := lamB_of hl
    unfold runC at h
    by_cases hn : ps.length = ws.length
    · rw [decide_eq_true hn] at h
      have hpa : ps.length = a.args.length := by
        have := congrArg List.length LB.pn
        rw [List.length_map, List.length_map] at this
        exact this
      have l1 := ra.length
      have l2 := rv.length
      have of1 := funO_at e0.hok hf
      obtain ⟨⟨oc, cv, t, hoc, hdc, hvc⟩, _, _⟩ := e0.hok c' _ hcd
      have hplain : plainP (PySem.W.kla_fn "<lambda>" q a body scope cl pm (.ref c') ct).params = true := by
        show (a.posonlyargs.isEmpty && (a.vararg.isNone && (a.kwonlyargs.isEmpty && (a.kwarg.isNone && decide (a.args.map (·.arg)).Nodup)))) = true
        rw [LB.pos, LB.va, LB.ko, LB.kw, decide_eq_true LB.nd]
        rfl
      have hbind : bindArgs (PySem.W.kla_fn "<lambda>" q a body scope cl pm (.ref c') ct) ⟨us, []⟩ = pure ((a.args.map (·.arg)).zip us) := by
        obtain ⟨kk, e1, e2⟩ := bind_pos (fd := PySem.W.kla_fn "<lambda>" q a body scope cl pm (.ref c') ct) (us := us) (ds := []) hplain (by show us.length ≤ a.args.length; omega) (Nat.zero_le _) (by show a.args.length ≤ us.length + 0; omega)
        rw [e1]
        have := e2 none rfl
        rw [List.drop_nil, List.append_nil] at this
        exact this
      have hdep : A.depth < recursionLimit := hr.depth
      refine PySem.W.kla_callFunE hdep of1 rfl LB.co LB.gen rfl ⟨c', oc, cv, t, rfl, hoc, hdc, hvc⟩ ?_
      rw [hbind]
      refine wpAny_pure (wpAny_newFunctionEnv LB.ce (fun y hy => ?_) (fun h₁ hns hsb => ⟨(e0.mod.nolimit.keeps fun b o e => (e0.bs b o e).1).fresh _ hsb, ?_⟩) LB.kind)
      · have := (List.of_mem_zip (show (y.1, y.2) ∈ _ from hy)).1
        obtain ⟨z, hz, e⟩ := List.mem_map.mp this
        rw [← e]
        exact LB.pl z hz
      · have kp : ∀ b o, s.heap.get? b = some o → h₁.get? b = some o := fun b o e => hsb.extBut b o (Nat.ne_of_lt (Heap.lt_size e)) (Heap.get?_push_of_some _ e)
        show codeAny _ _ (.expr body (PySem.W.envX q scope s.heap.objs.size f (.ref c') cl)) _ _
        have hr1 : Room (2 * k + 1) (A.deeper (PySem.W.envX q scope s.heap.objs.size f (.ref c') cl)) := (show Room ((2 * k + 1) + 1) A from hr).deeper _
        have hbs : ∀ y c, cl.lookup y = some c → ∃ o v, s.heap.get? c = some o ∧ o.data = .cell v ∧ H c = none := fun y c e => by
          obtain ⟨o, v, h1, h2⟩ := bs y c e
          exact ⟨o, v, (e0.bs c o h1).1, h2, (e0.bs c o h1).2⟩
        have look : ∀ y, scope.names.lookup y = some .cell ∨ scope.names.lookup y = some .free → ∃ c, cl.lookup y = some c := fun y hy => by
          rcases hy with hy | hy
          · exact (LB.ce _ (PySem.mem_of_lookup hy) rfl).elim
          · exact fr y hy
        have mlook : ∀ (j : Nat) (y : Str) (u : Value), (a.args.map (·.arg))[j]? = some y → us[j]? = some u → ((a.args.map (·.arg)).zip us).reverse.lookup y = some u := fun j y u h1 h2 => by
          refine lookup_nd ?_ (List.mem_reverse.mpr ?_)
          · rw [List.map_reverse, keys_zip, List.take_of_length_le (by rw [List.length_map]; omega)]
            exact (List.pairwise_reverse.mpr (LB.nd.imp fun h z => h z.symm))
          · refine List.mem_of_getElem? (i := j) ?_
            rw [List.getElem?_zip_eq_some]
            exact ⟨h1, h2⟩
        -- a local name is a parameter
        have par : ∀ (i : Nat) (y : Str), N[i]? = some y → scope.names.lookup y = some .local → ∃ j, ps[j]? = some i ∧ (a.args.map (·.arg))[j]? = some y := fun i y h1 h2 => by
          have hm := LB.lo _ (PySem.mem_of_lookup h2) rfl
          obtain ⟨j, hj, e⟩ := List.mem_iff_getElem.mp hm
          have e' : (a.args.map (·.arg))[j]? = some y := by rw [List.getElem?_eq_getElem hj, e]
          obtain ⟨i', h3, h4⟩ := ps_at LB e'
          have : i' = i := L2.nodup_ix nd h4 h1
          subst this
          exact ⟨j, h3, e'⟩
        have npar : ∀ (i : Nat) (y : Str), N[i]? = some y → scope.names.lookup y = some .free → i ∉ ps := fun i y h1 h2 hm => by
          obtain ⟨j, hj, e⟩ := List.mem_iff_getElem.mp hm
          have e1 : (ps.map fun i => N[i]?)[j]? = some (some y) := by rw [List.getElem?_map, List.getElem?_eq_getElem hj, e]; exact congrArg some h1
          rw [LB.pn, List.getElem?_map, Option.map_eq_some_iff] at e1
          obtain ⟨z, hz, e2⟩ := e1
          have := LB.pl z (List.mem_of_getElem? hz)
          rw [Option.some.inj e2, h2] at this
          cases this
        let σV := setV (clV N scope σ XX) ps vs
        have lV : σV.length = N.length := by show (setV _ _ _).length = _; rw [setV_len, clV_len]
        let X := clX S base N q scope cl f c' A outer s H E
        have I : Inv X [] σV H { s with heap := h₁, toks := s.toks + ((a.args.map (·.arg)).zip us).length } := by
          refine ⟨⟨e0.mod, LB.kind, rfl, rfl, Nat.le_refl _, inj, look, fun y c z _ => (by cases (show false = true from z)), fun _ => hr.hd, Around.frames_deeper e0.frames, .inr ⟨rfl, rfl⟩, fun b z => (nomatch (show b ∈ ([] : List Addr) from z)), e0.bs, e0.bsz, fun b _ _ z => (nomatch (show b ∈ ([] : List Addr) from z)),
              fun b z => (nomatch (show b ∈ ([] : List Addr) from z)), e0.funs, e0.frf⟩,
            rfl, e0.bare, L2.Un.kept kp, ⟨_, hns, fun i y v e1 e2 e3 => ?_⟩, fun y c e => ?_, e0.hok.fresh (Nat.le_refl _), fun y c e => ?_, fun p hp => (nomatch (show p ∈ ([] : List (Addr × PySem.Obj)) ++ [] from hp)), e0.hok.kept kp, lV⟩
          · have e1 : N[i]? = some y := e1
            have e2 : (setV (clV N scope σ XX) ps vs)[i]? = some (some v) := e2
            have e3 : Vis scope y := e3
            rcases e3 with e3 | e3 | e3
            · obtain ⟨j, h3, h4⟩ := par i y e1 e3
              have hj : j < vs.length := by
                have := (List.getElem?_eq_some_iff.mp h3).1
                omega
              obtain ⟨u, hu, ru⟩ := rv.get (List.getElem?_eq_getElem hj)
              rw [setV_in (ps_nodup LB) h3 (List.getElem?_eq_getElem hj) (by rw [clV_len]; exact (List.getElem?_eq_some_iff.mp e1).1)] at e2
              cases e2
              exact ⟨u, ru, .inl ⟨e3, mlook j y u h4 hu⟩⟩
            · exact (LB.ce _ (PySem.mem_of_lookup e3) rfl).elim
            · rw [setV_out (npar i y e1 e3)] at e2
              obtain ⟨y', w, f1, f2, f3, f4⟩ := clV_some e2
              rw [e1] at f1; cases f1
              subst f4
              obtain ⟨c, hc'⟩ := fr y e3
              obtain ⟨u, hcell, ru⟩ := cells i y c w e1 e3 f2 hc'
              obtain ⟨o, ho, hd'⟩ := hcell
              exact ⟨u, ru, .inr ⟨.inr e3, c, hc', ⟨o, kp c o (e0.bs c o ho).1, hd'⟩⟩⟩
          · obtain ⟨o, v, h1, h2, _⟩ := hbs y c e
            exact ⟨v, o, kp c o h1, h2⟩
          · obtain ⟨o, v, h1, h2, h3⟩ := hbs y c e
            exact h3
        have G : Good S k X := ⟨rfl, rfl, rfl, rfl, nd, LK.names, rfl, hr1, GB, LK.free⟩
        have tk : Takes X (fun cls d _ H => E cls d H) := L2.takes_of rfl rfl rfl rfl
        have sr : SR S X φ H (setAll σ ps ws) σV := by
          refine ⟨by rw [setAll_len]; exact hσ, lV, fun i y v e1 e2 e3 => ?_⟩
          have e2 : N[i]? = some y := e2
          have e3 : Vis scope y := e3
          have hi : i < N.length := (List.getElem?_eq_some_iff.mp e2).1
          rcases e3 with e3 | e3 | e3
          · obtain ⟨j, h3, h4⟩ := par i y e2 e3
            have hj : j < ws.length := by
              have := (List.getElem?_eq_some_iff.mp h3).1
              omega
            rw [setAll_in (ps_nodup LB) h3 (List.getElem?_eq_getElem hj) (by rw [hσ]; exact hi)] at e1
            cases e1
            obtain ⟨x, hx, rx⟩ := ra.get (List.getElem?_eq_getElem hj)
            exact ⟨x, setV_in (ps_nodup LB) h3 hx (by rw [clV_len]; exact hi), rx⟩
          · exact (LB.ce _ (PySem.mem_of_lookup e3) rfl).elim
          · have hnp := npar i y e2 e3
            rw [setAll_out hnp] at e1
            exact ⟨XX i, by show (setV _ _ _)[i]? = _; rw [setV_out hnp]; exact clV_at e2 e1 e3, rs i y v e2 e3 e1⟩
        have pe := (snd_e C b (X := X) (L := false) G (fun z => nomatch z) tk hc).1
        refine PySem.W.kla_codeExpr (wpAny_mono (pe.run [] _ σV H (fun v H' => Q v H') I ⟨φ, setAll σ ps ws, M, Re, sr, ?_⟩) (fun v s' hq => ?_) fun e s' hq => hq)
        · show TV S (RX S X) φ H (ev S.Pr.env (run S.Pr k) b (setAll σ ps ws) M) Q _
          have h : TV S (RD0 S) φ H ((ev S.Pr.env (run S.Pr k) b (setAll σ ps ws) M).bind fun v M => match v.isD with | true => .ok v M | false => .err) Q E := h
          cases e : ev S.Pr.env (run S.Pr k) b (setAll σ ps ws) M with
          | ok v M1 =>
            rw [e] at h
            have h : TV S (RD0 S) φ H (match v.isD with | true => R.ok v M1 | false => .err) Q E := h
            cases hd : v.isD with
            | false => rw [hd] at h; exact h.elim
            | true =>
              rw [hd] at h
              exact fun φ' H' x R K r => h φ' H' x R K (RS.data r hd)
          | exc x M1 => rw [e] at h; exact h
          | err => rw [e] at h; exact h.elim
        · obtain ⟨w', H', J', rv', q'⟩ := hq
          exact ⟨w', H', J'.os, J'.bare, J'.base, J'.hok, rv', q'⟩
    · rw [decide_eq_false hn] at h
      exact h.elim
end Mi
end
section
set_option Elab.async false
set_option linter.all false
set_option maxRecDepth 100000
/-! S34: runs of every depth. -/
namespace Mi
open PySem PySem.Spec PyProof.Rows
variable {S : Link}
theorem runOk (F : Facts S) (TF : TabF S) (FF : FnF S) (LK : LinkOk S) (RT : ∀ k, Ctx S k → RTOk S k) : ∀ k, RunOk S k
  | 0 => ⟨fun _ _ _ _ _ _ _ _ _ _ _ _ _ _ _ _ _ _ _ _ _ _ _ _ _ _ h => h.elim, fun _ _ _ _ _ _ _ _ _ _ _ _ _ _ _ _ _ _ _ _ _ _ _ h => h.elim⟩
  | k + 1 =>
    have C : Ctx S k := ⟨F, TF, FF, runOk F TF FF LK RT k⟩
    ⟨fun base GB => run_fn C (RT k C) LK base GB, fun base GB => run_clo C LK base GB⟩
end Mi
end
section
set_option Elab.async false
set_option linter.all false
set_option maxRecDepth 100000
/-! S35: several except clauses, each with or without a name. -/
namespace Mi
open PySem PySem.Spec PyProof.Rows
open L2
abbrev HT := Addr → Value → Option Addr → TS
/-- how a suite's end is seen behind it: the clause's name is gone -/
def dropE (o : Option Nat) (D : Ends) : Ends :=
  match o with
  | none => D
  | some i => { nx := fun σ' H' => D.nx (σ'.set i none) H', rt := D.rt, bk := fun σ' H' => D.bk (σ'.set i none) H', ct := fun σ' H' => D.ct (σ'.set i none) H' }
def putE (o : Option Nat) (a : Addr) (σ : L2.St) : L2.St :=
  match o with
  | none => σ
  | some i => σ.set i (some (.ref a))
/-- what clauses wish of the body's exception, in turn -/
def wMix (K : PySem.W.Frag) (Wout : WX) (D : Ends) : List (Value × Option Nat × HT) → WX
  | [] => Wout
  | (c, o, ts) :: r => fun cls d σ H => ∃ b, PySem.W.exmOne K cls c = some b ∧ (b = true → ∀ a, H a = none → ts a cls d (dropE o D) (putE o a σ) H) ∧ (b = false → wMix K Wout D r cls d σ H)
def NmOk (X : Cx) (o : Option Nat) (n : Option Str) : Prop :=
  match o, n with
  | none, none => True
  | some i, some n => X.N[i]? = some n ∧ X.env.kindOf n = some .local
  | _, _ => False
inductive HdsX (X : Cx) : List ExceptHandler → List (Value × Option Nat × HT) → Prop
  | nil : HdsX X [] []
  | cons {x : Str} {c : Value} {o : Option Nat} {n : Option Str} {ts : HT} {b₀ : Stmt} {suite : List Stmt} {np pos' : Pos} {hds : List ExceptHandler} {l : List (Value × Option Nat × HT)} (hc : Names X x c) (hn : NmOk X o n)
      (hsu : ∀ (a : Addr) (oe : Obj) (cls : Value) (d : Option Addr) (pn : List (Addr × Obj)), Zc cls d oe → (∃ vs, oe.data = .fields vs) → PSs (X.suite a ((a, oe) :: pn)) (b₀ :: suite) (ts a cls d)) (r : HdsX X hds l) :
      HdsX X (.ExceptHandler (some (.Name x np)) n (b₀ :: suite) pos' :: hds) ((c, o, ts) :: l)
section
variable {X : Cx} {body : List Stmt} {h₀ : ExceptHandler} {hds : List ExceptHandler} {l : List (Value × Option Nat × HT)} {pos : Pos} {tb : WX → TS} {Wout : WX}
theorem ps_try_mix (hs : X.stack = X.env :: X.outer) (hf : X.env.frame = some X.env.locals) (hN : X.N.Nodup) (tk : Takes X Wout)
    (hb : ∀ (W : WX) (pn : List (Addr × Obj)) (xe : Value → Shared → Prop), Takes (X.tr pn xe) W → PassesOwn (model X.prog X.w) X.A X.env xe → PSs (X.tr pn xe) body (tb W))
    (hh : HdsX X (h₀ :: hds) l) : PS X (.Try body (h₀ :: hds) [] [] pos) (fun D σ H => tb (wMix X.K Wout D l) D σ H) := by
  refine ⟨fun pins s σ H D I h => ?_⟩
  have ok := I.ok
  have hfr : X.A.frames = some (X.env :: X.outer) := by rw [ok.frames, hs]
  refine wpAny_Try_except ?_
  refine wpAny_mono ((hb (wMix X.K Wout D l) (X.pn ++ pins) (fun e s₁ => wpAny (model X.prog X.w) X.A (noteFrame e X.env) (fun _ s₂ => wpAny (model X.prog X.w) X.A (setFlight e none) (fun _ s₃ =>
    wpAny (model X.prog X.w) X.A (handleBy e X.env (h₀ :: hds)) (SP X pins D) X.xe s₃) X.xe s₂) X.xe s₁) (fun u s' xx => ?_) PassesOwn.looking).run [] s σ H D (I.toTry _) h) (fun f s1 hsp => ?_) (fun e s1 he => he)
  · -- the catch
    obtain ⟨a, B, sI, pins', σ', H', cls, d, rfl, J', nb, up, sky, na, os, ag, w⟩ := xx
    have J : Inv X pins σ' H' sI := J'.ofTry ok
    have sky' : Sky B (X.env :: X.outer) a (Zc cls d) X.env.locals s'.heap := by rw [← hs]; exact sky
    show wpAny (model X.prog X.w) X.A (noteFrame (.ref a) X.env) _ _ _
    refine Sky.land Zc.steady hfr hf sky' fun h3 fl3 up3 => ?_
    have J3 : Inv X pins σ' H' { s' with heap := h3 } := J.landed nb fl3.1 (up.trans up3) os ag
    obtain ⟨oe3, vs3, he3, hz3, hd3⟩ := fl3.there
    have notFr : ∀ {h : Heap} {o : Obj} {vs : Array Value}, h.FunFrames B (X.env :: X.outer) → h.get? a = some o → o.data = .fields vs → a ∉ frs (X.env :: X.outer) := fun {h o vs} ff e dd hm => by
      obtain ⟨_, o', e', hnf⟩ := ff.mem hm
      rw [e] at e'; cases e'
      exact hnf _ dd
    have nfr := notFr fl3.2.2.1 he3 hd3
    have nL : a ≠ X.env.locals := fun z => nfr (List.mem_filterMap.mpr ⟨X.env, List.mem_cons_self, by rw [hf, z]⟩)
    have nF : a ∉ X.fs := fun hm => by
      obtain ⟨e, he, q⟩ := List.mem_filterMap.mp hm
      exact nfr (List.mem_filterMap.mpr ⟨e, List.mem_cons_of_mem _ he, q⟩)
    have S3 := J3.suite he3 hd3 na nL nF
    have go : ∀ {hds' : List ExceptHandler} {l' : List (Value × Option Nat × HT)}, HdsX X hds' l' → wMix X.K Wout D l' cls d σ' H' →
        wpAny (model X.prog X.w) X.A (handleBy (.ref a) X.env hds') (SP X pins D) X.xe { s' with heap := h3 } := by
      intro hds' l' hk
      induction hk with
      | nil =>
        intro w
        refine wpAny_handleBy_nil ?_
        obtain ⟨k1, k2, k3, oe, vs, T, oT, ts', he, hz, hd, h1, hr⟩ := id fl3
        unfold PySem.passOn
        refine wpAny_bind (wpAny_field he hd h1 ?_)
        rw [if_neg (show ¬ ((Value.ref T == Value.none) = true) from by simp)]
        have fin : wpAny (model X.prog X.w) X.A (setFlight (.ref a) X.env.frame) (fun _ s4 => wpAny (model X.prog X.w) X.A (throw (.ref a) : Sem Flow) (SP X pins D) X.xe s4) X.xe { s' with heap := h3 } := by
          rw [hf]
          refine HandSPX.setFlight_upZ fl3 fun h4 hh4 up4 => wpAny_throw (tk _ _ ?_)
          exact ⟨a, B, sI, pins, σ', H', cls, d, rfl, J, nb, (up.trans up3).trans up4, .inr (.inr (by rw [hs]; exact hh4)), na, os, ag, w⟩
        first
          | exact wpAny_bind (wpAny_pure (wpAny_bind fin))
          | exact wpAny_bind fin
      | @cons x c o n ts b₀ suite np pos' hds2 l2 hc hn hsu r ih =>
        intro w
        obtain ⟨b, hb1, hyes, hno⟩ := w
        refine wpAny_handleBy_cons (codeAny_handlers_test ?_) (by intro q; cases q)
        have LT : PySem.W.Looks (model X.prog X.w) h3 (typeOf (.ref a)) cls := fun A Q E s k q => wpAny_typeOf_ref (k _ _ he3) (by rw [hz3.1]; exact q)
        have LM := PySem.W.exm_one (M := model X.prog X.w) (J3.kIn) LT hb1
        have test : ∀ {Q : Value → Shared → Prop} {E : Value → Shared → Prop}, Q c { s' with heap := h3 } → wpAny (model X.prog X.w) (X.A.mark (some (.ref a))) (eval (.Name x np) X.env) Q E { s' with heap := h3 } := fun {Q E} q => by
          obtain ⟨hg, hdbg, hm | ⟨hm, hv, hnn⟩⟩ := hc
          · exact ld_glob (X := X.suite a ((a, oe3) :: (X.pn ++ pins))) S3 hg hm q hdbg
          · exact ld_blt (X := X.suite a ((a, oe3) :: (X.pn ++ pins))) S3 hg hm hv q hnn hdbg
        refine test (LM.here ?_)
        cases b with
        | true =>
          cases o with
          | none =>
            cases n with
            | some n => exact False.elim hn
            | none =>
              refine codeAny_handlers_suite ?_
              refine HandSPX.lands_againZ fl3 fun h4 fl4 up4 => ?_
              have J4 : Inv X pins σ' H' { s' with heap := h4 } := J.landed nb fl4.1 ((up.trans up3).trans up4) os ag
              obtain ⟨oe4, vs4, he4, hz4, hd4⟩ := fl4.there
              have S4 := J4.suite he4 hd4 na nL nF
              refine wpAny_mono ((hsu a oe4 cls d (X.pn ++ pins) hz4 ⟨_, hd4⟩).run [] _ _ H' _ S4 (hyes rfl a na)) (fun f s6 hsp => ?_) (fun _ _ z => False.elim z)
              cases f with
              | next =>
                obtain ⟨σ6, H6, S6, q6⟩ := hsp
                exact ⟨_, _, S6.unsuite ok, q6⟩
              | brk =>
                obtain ⟨σ6, H6, S6, q6⟩ := hsp
                exact ⟨_, _, S6.unsuite ok, q6⟩
              | cont =>
                obtain ⟨σ6, H6, S6, q6⟩ := hsp
                exact ⟨_, _, S6.unsuite ok, q6⟩
              | ret u =>
                obtain ⟨v6, σ6, H6, S6, r6, q6⟩ := hsp
                exact ⟨_, _, _, S6.unsuite ok, r6, q6⟩
          | some i =>
            cases n with
            | none => exact False.elim hn
            | some n =>
              obtain ⟨hi, hln⟩ := hn
              have hloc : Loc X.env.scope n := .inl hln
              refine codeAny_handlers_suite_as ?_
              refine HandSPX.lands_againZ fl3 fun h4 fl4 up4 => ?_
              have J4 : Inv X pins σ' H' { s' with heap := h4 } := J.landed nb fl4.1 ((up.trans up3).trans up4) os ag
              obtain ⟨oe4, vs4, he4, hz4, hd4⟩ := fl4.there
              have S4 := J4.suite he4 hd4 na nL nF
              refine store_ok (X := X.suite a ((a, oe4) :: (X.pn ++ pins))) (v := .ref a) S4 hN hi hloc rfl (fun s5 S5 => ?_) (.inr hln)
              refine wpAny_mono ((hsu a oe4 cls d (X.pn ++ pins) hz4 ⟨_, hd4⟩).run [] s5 _ H' _ S5 (hyes rfl a na)) (fun f s6 hsp => ?_) (fun _ _ z => False.elim z)
              have end_ : ∀ {σ6 : L2.St} {H6 : Hp} {Q : Shared → Prop}, Inv (X.suite a ((a, oe4) :: (X.pn ++ pins))) [] σ6 H6 s6 → (∀ s7, Inv X pins (σ6.set i none) H6 s7 → Q s7) →
                  wpAny (model X.prog X.w) X.A (do bindName X.env n .none; unbindBehindTheSuite X.env n pos') (fun _ s7 => Q s7) X.xe s6 := fun {σ6 H6 Q} S6 hq => gone_ok (S6.unsuite ok) hN hi hln hq
              cases f with
              | next =>
                obtain ⟨σ6, H6, S6, q6⟩ := hsp
                exact end_ S6 fun s7 J7 => ⟨_, _, J7, q6⟩
              | brk =>
                obtain ⟨σ6, H6, S6, q6⟩ := hsp
                exact end_ S6 fun s7 J7 => ⟨_, _, J7, q6⟩
              | cont =>
                obtain ⟨σ6, H6, S6, q6⟩ := hsp
                exact end_ S6 fun s7 J7 => ⟨_, _, J7, q6⟩
              | ret u =>
                obtain ⟨v6, σ6, H6, S6, r6, q6⟩ := hsp
                exact end_ S6 fun s7 J7 => ⟨_, _, _, J7, r6, q6⟩
        | false =>
          show wpAny _ X.A (handleBy (.ref a) X.env hds2) _ _ _
          exact ih (hno rfl)
    exact go hh w
  · cases f with
    | next =>
      obtain ⟨σ', H', J', q⟩ := hsp
      exact wpAny_execs_nil ⟨σ', H', J'.ofTry ok, q⟩
    | brk =>
      obtain ⟨σ', H', J', q⟩ := hsp
      exact ⟨σ', H', J'.ofTry ok, q⟩
    | cont =>
      obtain ⟨σ', H', J', q⟩ := hsp
      exact ⟨σ', H', J'.ofTry ok, q⟩
    | ret u =>
      obtain ⟨v, σ', H', J', r, q⟩ := hsp
      exact ⟨v, σ', H', J'.ofTry ok, r, q⟩
end
end Mi
end
section
set_option Elab.async false
set_option linter.all false
set_option maxRecDepth 100000
/-! S36: what an except suite may return is sound, without calm. -/
namespace Mi
open PySem PySem.Spec PyProof.Rows
open L2 (V Hp HO SqL SqT RelV upd upd_same upd_ne ne_of ne_of_none Key Cx Inv PE PT PW PA PC PS PSs TS Ends TE TT TA VK Vis Takes WX XK Room)
section
variable {S : Link} {k : Nat} {X : Cx} {W : WX}
theorem h_var {i : Nat} {x : Str} {pos : Pos} (hv : varOk X.N X.env.scope i x = true) : PE X (.Name x pos) (tEv S k X W (.var i)) := by
  obtain ⟨a1, a2, a3, a4⟩ := varOk_of hv
  refine PE_imp (L2.pe_var (i := i) a1 a2 a3 a4) fun σV H Q ⟨φ, σ, M, Re, sr, q⟩ => ?_
  have q : TV S (RX S X) φ H (match σ[i]? with | some (some v) => R.ok v M | _ => .err) Q _ := q
  split at q
  · rename_i v e
    obtain ⟨y, e2, r⟩ := sr.at_ i x v e a1 a2
    exact ⟨y, e2, q φ H y Re (Keep.refl _ _) r⟩
  · exact q.elim
theorem h_fld (hK : X.K = S.K) (hN : S.T.names.Nodup) (F : Facts S) {A : Ex} {a : Expr} {f : Nm} {n : Str} {pos : Pos} (ha : PE X a (tEv S k X W A)) (hf : S.T.names[f]? = some n) (hs : noSup a = true) : PE X (.Attribute a n pos) (tEv S k X W (.fld A f)) := by
  refine PE_imp (pe_fx ha (base_of hs)) fun σV H Q h => ?_
  refine tE_mono (tE_one h) fun x H1 ⟨φ, M, v, Re, r, h1⟩ => ?_
  rw [hK]
  split at h1
  · rename_i m
    split at h1
    · rename_i c fs hm
      obtain ⟨p, rfl, hp⟩ := r.ref_
      obtain ⟨s, C, dx, ys, h0, e1, e2, e3, e4⟩ := Re.ins hp hm
      split at h1
      · rename_i hcf
        obtain ⟨hc1, hc2⟩ := Bool.and_eq_true_iff.mp hcf
        cases e : fs.lookup f with
        | none => rw [e] at h1; exact h1.elim
        | some z =>
          rw [e] at h1
          obtain ⟨zx, l, rz⟩ := e4.lookup hN hf e
          exact .inl ⟨p, C, dx, ys, zx, rfl, e3, (F.kit c s C e1 e2 h0).2.1, F.fld c s C f n e1 e2 h0 hc2 hf, l, TV.ok Re (.d rz.isD rz) h1⟩
      · exact h1.elim
    · exact h1.elim
  · rename_i c fs
    obtain ⟨s, ys, p, C, d, oe, rfl, h1', h2, h3, h4, h5, h6, h7⟩ := r.exv_
    split at h1
    · rename_i hcf
      obtain ⟨hc1, hc2⟩ := Bool.and_eq_true_iff.mp hcf
      cases e : fs.lookup f with
      | none => rw [e] at h1; exact h1.elim
      | some z =>
        rw [e] at h1
        obtain ⟨zx, l, rz⟩ := h7.lookup hN hf e
        exact .inr ⟨p, C, oe, d, ys, zx, rfl, h1', h2, h3, F.xf c s C h4 h5 hc1, F.xfld c s C f n h4 h5 hc1 hc2 hf, h6, l, TV.ok Re (.d rz.isD rz) h1⟩
    · exact h1.elim
  · exact h1.elim
theorem h_e (hK : X.K = S.K) (hN : S.T.names.Nodup) (F : Facts S) : ∀ {A : Ex} {e : Expr}, hOk A = true → chk S.T false X.N X.env.scope A e = true → PE X e (tEv S k X W A) := by
  intro A e ho hc
  cases A <;> first | (cases ho; done) | skip
  case var i =>
    cases e <;> first | (cases hc; done) | skip
    exact h_var hc
  case lit c =>
    cases e <;> first | (cases hc; done) | skip
    exact e_lit hc
  case fld a f =>
    cases a <;> first | (cases ho; done) | skip
    rename_i i
    cases e <;> first | (cases hc; done) | skip
    rename_i x n p
    obtain ⟨b1, b2⟩ := and2 (show (decide (S.T.names[f]? = some n) && (noSup x && chk S.T false X.N X.env.scope (.var i) x)) = true from hc)
    obtain ⟨b2, b3⟩ := and2 b2
    cases x <;> first | (cases b3; done) | skip
    exact h_fld hK hN F (h_var b3) (of_decide_eq_true b1) b2
theorem h_es (hK : X.K = S.K) (hN : S.T.names.Nodup) (F : Facts S) : ∀ {As : List Ex} {es : List Expr}, As.all hOk = true → chks S.T false X.N X.env.scope As es = true → PA X es (tAv S k X W As)
  | [], es, ho, hc => by
    cases es with
    | cons _ _ => cases hc
    | nil =>
      refine PA_imp L2.pa_nil fun σV H Q ⟨φ, σ, M, Re, sr, q⟩ => ?_
      have q : TV S (fun φ H vs xs => RSs S X.base X.pn φ H vs xs) φ H (evs S.Pr.env (run S.Pr k) [] σ M) Q _ := q
      rw [evs] at q
      exact TV.ok Re .nil q
  | A :: As, es, ho, hc => by
    cases es with
    | nil => cases hc
    | cons e es =>
      obtain ⟨b1, b2⟩ := and2 (show (chk S.T false X.N X.env.scope A e && chks S.T false X.N X.env.scope As es) = true from hc)
      obtain ⟨o1, o2⟩ := and2 (show (hOk A && As.all hOk) = true from ho)
      refine PA_imp (L2.pa_cons (h_e (k := k) (W := W) hK hN F o1 b1) (h_es hK hN F o2 b2) (chk_star b1 es _)) fun σV H Q h => ?_
      refine tE_mono (tE_bind (RV := RX S X) (g := fun σ v M => (evs S.Pr.env (run S.Pr k) As σ M).bind fun vs M => .ok (v :: vs) M) (tE_cong h fun σ M => by rw [evs])) fun x H1 ⟨φ, σ, v, M, Re, sr, r, h1⟩ => ?_
      refine ⟨φ, σ, M, Re, sr, ?_⟩
      exact (TV.bind (RV := fun φ H vs xs => RSs S X.base X.pn φ H vs xs) h1).mono fun xs H2 ⟨φ2, vs, M2, R2, K2, r2, h2⟩ => TV.ok R2 (.cons (RS.mono K2 r) r2) h2
theorem chks_len {T : Tb} {L : Bool} {N : List Str} {sc : Scope} : ∀ {As : List Ex} {es : List Expr}, chks T L N sc As es = true → As.length = es.length
  | [], [], _ => rfl
  | [], _ :: _, h => by cases h
  | _ :: _, [], h => by cases h
  | A :: As, e :: es, h => by
    obtain ⟨_, b2⟩ := and2 (show (chk T L N sc A e && chks T L N sc As es) = true from h)
    exact congrArg (· + 1) (chks_len b2)
theorem h_ret (hK : X.K = S.K) (hN : S.T.names.Nodup) (F : Facts S) {A : Ex} {e : Expr} (ho : hOks A = true) (hc : chk S.T false X.N X.env.scope A e = true) : PE X e (tEv S k X W A) := by
  cases A <;> first | exact h_e hK hN F ho hc | skip
  rename_i As
  cases e <;> first | (cases hc; done) | skip
  rename_i es j p
  obtain ⟨b1, b2⟩ := and2 (show (decide (es.length ≤ 1000) && chks S.T false X.N X.env.scope As es) = true from hc)
  have hl := of_decide_eq_true b1
  have hn := chks_len b2
  refine PE_imp (L2.pe_tup (h_es (k := k) (W := W) hK hN F ho b2)) fun σV H Q h => ?_
  refine tE_mono (tA_len (g := fun vs M => nodata vs (R.ok (Val.tup vs) M)) h) fun xs H1 ⟨hz, φ, M, vs, Re, r, h1⟩ => ⟨line_1000 (by omega), fun p hp => ?_⟩
  obtain ⟨hd, h1⟩ := nodata_ok h1
  have K : Keep φ φ H1 (upd H1 p (.tup xs)) := keep_new hp
  exact h1 φ _ (.ref p) (Re.new hp) K (.d rfl (.tup (.inl (.inl upd_same)) ((r.data hd).mono K)))
end
end Mi
end
section
set_option Elab.async false
set_option linter.all false
set_option maxRecDepth 100000
/-! S37: the body of a try, an except suite. -/
namespace Mi
open PySem PySem.Spec PyProof.Rows
open L2 (V Hp HO SqL SqT RelV upd upd_same upd_ne ne_of ne_of_none Key Cx Inv PE PT PW PA PC PS PSs TS Ends TE TT TA VK Vis Takes WX XK Room)
section
variable {S : Link} {k : Nat} {X : Cx} {W : WX} {φ : List Addr} {H : Hp} {σ : Sl} {σV : L2.St}
theorem SR.to {Y : Cx} (hN : Y.N = X.N) (hs : Y.env.scope = X.env.scope) (hb : Y.base = X.base) (sr : SR S X φ H σ σV) (hx : noXs σ = true) : SR S Y φ H σ σV := by
  refine ⟨by rw [hN]; exact sr.len, by rw [hN]; exact sr.lv, fun i y v e1 e2 e3 => ?_⟩
  obtain ⟨x, q, r⟩ := sr.at_ i y v e1 (by rw [← hN]; exact e2) (by rw [← hs]; exact e3)
  exact ⟨x, q, by rw [hb]; exact r.pn (noXs_at hx e1)⟩
theorem TF.to {Y : Cx} {P : Env} {r : Fl} {D : Ends} (hN : Y.N = X.N) (hs : Y.env.scope = X.env.scope) (hb : Y.base = X.base) (hx : endX P r = true) (h : TF S X W φ H r D) : TF S Y W φ H r D := by
  cases r with
  | nx σ M => exact fun φ' H' σV' R K sr => h φ' H' σV' R K (sr.to hN.symm hs.symm hb.symm hx)
  | bk σ M => exact fun φ' H' σV' R K sr => h φ' H' σV' R K (sr.to hN.symm hs.symm hb.symm hx)
  | ct σ M => exact fun φ' H' σV' R K sr => h φ' H' σV' R K (sr.to hN.symm hs.symm hb.symm hx)
  | rt v σ M =>
    have hv : v.isX = false := by simpa [endX] using hx
    refine fun φ' H' x R K r => h φ' H' x R K ?_
    have r : RS S X.base Y.pn φ' H' v x := by rw [← hb]; exact r
    exact r.pn hv
  | exc e σ M => exact fun φ' H' σV' C s d ys R K sr => h φ' H' σV' C s d ys R K (sr.to hN.symm hs.symm hb.symm (Bool.and_eq_true_iff.mp (show (noXs σ && (P.excFs e.cls).isSome) = true from hx)).1)
  | err => exact h
/-- what a suite answers -/
def sufR (P : Env) (o : Oracle) (n : Option Nat) (b : List St) (x : Exc) (σ : Sl) (M : Mem) : Fl :=
  match n with
  | none => suiteEnd (xss P o b σ M)
  | some i => goneEnd i (suiteEnd (xss P o b (σ.set i (some (.exv x.cls x.fs))) M))
/-- the slots that a suite begins with -/
def sufS (n : Option Nat) (x : Exc) (σ : Sl) : Sl :=
  match n with
  | none => σ
  | some i => σ.set i (some (.exv x.cls x.fs))
theorem sufR_at {P : Env} {o : Oracle} {n : Option Nat} {b : List St} {x : Exc} {M : Mem} {D : Ends} {Y : Cx} {W' : WX} (hb : Y.base = X.base) (h : TF S X W φ H (sufR P o n b x σ M) D) : TF S Y W' φ H (xss P o b (sufS n x σ) M) D := by
  have h : TF S X W φ H (suiteEnd (xss P o b (sufS n x σ) M)) D := by
    cases n with
    | none => exact h
    | some i =>
      have h : TF S X W φ H (goneEnd i (suiteEnd (xss P o b (σ.set i (some (.exv x.cls x.fs))) M))) D := h
      show TF S X W φ H (suiteEnd (xss P o b (σ.set i (some (.exv x.cls x.fs))) M)) D
      cases e : suiteEnd (xss P o b (σ.set i (some (.exv x.cls x.fs))) M) with
      | rt v σ1 M1 => rw [e] at h; exact h
      | err => rw [e] at h; exact h
      | nx σ1 M1 => exfalso; revert e; cases xss P o b (σ.set i (some (.exv x.cls x.fs))) M <;> (unfold suiteEnd; repeat' split) <;> (intro z; cases z)
      | bk σ1 M1 => exfalso; revert e; cases xss P o b (σ.set i (some (.exv x.cls x.fs))) M <;> (unfold suiteEnd; repeat' split) <;> (intro z; cases z)
      | ct σ1 M1 => exfalso; revert e; cases xss P o b (σ.set i (some (.exv x.cls x.fs))) M <;> (unfold suiteEnd; repeat' split) <;> (intro z; cases z)
      | exc x1 σ1 M1 => exfalso; revert e; cases xss P o b (σ.set i (some (.exv x.cls x.fs))) M <;> (unfold suiteEnd; repeat' split) <;> (intro z; cases z)
  cases e : xss P o b (sufS n x σ) M with
  | rt v σ1 M1 =>
    rw [e] at h
    have h : TF S X W φ H (match v.isX with | true => .err | false => .rt v σ1 M1) D := h
    cases hv : v.isX with
    | true => rw [hv] at h; exact h.elim
    | false =>
      rw [hv] at h
      refine fun φ' H' x R K r => h φ' H' x R K ?_
      have r : RS S X.base Y.pn φ' H' v x := by rw [← hb]; exact r
      exact r.pn hv
  | nx _ _ => rw [e] at h; exact h.elim
  | bk _ _ => rw [e] at h; exact h.elim
  | ct _ _ => rw [e] at h; exact h.elim
  | exc _ _ _ => rw [e] at h; exact h.elim
  | err => rw [e] at h; exact h.elim
end
end Mi
end
section
set_option Elab.async false
set_option linter.all false
set_option maxRecDepth 100000
/-! S38: try with several clauses is sound. -/
namespace Mi
open PySem PySem.Spec PyProof.Rows
open L2 (V Hp HO SqL SqT RelV upd upd_same upd_ne ne_of ne_of_none Key Cx Inv PE PT PW PA PC PS PSs TS Ends TE TT TA VK Vis Takes WX XK Room)
/-- what is known of the error classes -/
structure ExF (S : Link) : Prop where
  cls : ∀ c, (S.Pr.env.excFs c).isSome = true → ∃ s C, S.T.names[c]? = some s ∧ S.mg s = some (.ref C)
  one : ∀ c c' s s' C C', (S.Pr.env.excFs c).isSome = true → (S.Pr.env.excFs c').isSome = true → S.T.names[c]? = some s → S.mg s = some (.ref C) → S.T.names[c']? = some s' → S.mg s' = some (.ref C') →
    PySem.W.exmOne S.K (.ref C) (.ref C') = some ((S.Pr.env.mro c).contains c')
section
variable {S : Link} {k : Nat} {X : Cx} {W : WX} {L : Bool}
def tH (S : Link) (k : Nat) (X : Cx) (W : WX) (n : Option Nat) (b : List St) : HT := fun a cls d D σV H => ∃ φ σ M x s C dd ys σ0, Rel S φ M H ∧ SR S X φ H σ σ0 ∧ noXs σ = true ∧ σV = putE n a σ0 ∧ cls = .ref C ∧ d = some dd ∧
  S.T.names[(x : Exc).cls]? = some s ∧ S.mg s = some (.ref C) ∧ H dd = some (.xd ys) ∧ RFs S φ H x.fs ys ∧ TF S X W φ H (sufR S.Pr.env (run S.Pr k) n b x σ M) D
theorem suite_sr {φ : List Addr} {H : Hp} {σ : Sl} {σ0 : L2.St} {n : Option Nat} {nm : Option Str} {a : Addr} {oe : PySem.Obj} {pn : List (Addr × PySem.Obj)} {x : Exc} {s : Str} {C dd : Addr} {ys : List (Str × V)} (hn : NmOk X n nm) (sr : SR S X φ H σ σ0) (hx : noXs σ = true)
    (hz : L2.Zc (.ref C) (some dd) oe) (hd : ∃ vs, oe.data = .fields vs) (h1 : S.T.names[x.cls]? = some s) (h2 : S.mg s = some (.ref C)) (h3 : H dd = some (.xd ys)) (h4 : RFs S φ H x.fs ys) :
    SR S (L2.Cx.suite X a ((a, oe) :: pn)) φ H (sufS n x σ) (putE n a σ0) := by
  cases n with
  | none => exact SR.to (X := X) (Y := L2.Cx.suite X a ((a, oe) :: pn)) rfl rfl rfl sr hx
  | some i =>
    refine ⟨by show (σ.set i _).length = _; rw [List.length_set]; exact sr.len, by show (σ0.set i _).length = _; rw [List.length_set]; exact sr.lv, fun j y v e1 e2 e3 => ?_⟩
    have e1 : (σ.set i (some (.exv x.cls x.fs)))[j]? = some (some v) := e1
    show ∃ z, (σ0.set i (some (.ref a)))[j]? = some (some z) ∧ _
    by_cases hj : i = j
    · subst hj
      have hlt : i < σ.length := by
        by_cases hl : i < σ.length
        · exact hl
        · rw [List.getElem?_eq_none (by rw [List.length_set]; omega)] at e1; cases e1
      rw [List.getElem?_set_self hlt] at e1
      cases e1
      exact ⟨.ref a, List.getElem?_set_self (by rw [sr.lv, ← sr.len]; exact hlt), .exv List.mem_cons_self hz hd h1 h2 h3 h4⟩
    · rw [List.getElem?_set_ne hj] at e1
      obtain ⟨z, q, r⟩ := sr.at_ j y v e1 e2 e3
      exact ⟨z, by rw [List.getElem?_set_ne hj]; exact q, r.pn (noXs_at hx e1)⟩
theorem suite_ok (D : DX S k X W L) (F : Facts S) {n : Option Nat} {nm : Option Str} (hn : NmOk X n nm) {b : List St} {st : Stmt}
    (hb : (∃ A v pos, b = [.ret (some A)] ∧ st = .Return (some v) pos ∧ hOks A = true ∧ chk S.T false X.N X.env.scope A v = true) ∨ (∃ pos, b = [.ret none] ∧ st = .Return none pos))
    (a : Addr) (oe : PySem.Obj) (cls : Value) (d : Option Addr) (pn : List (Addr × PySem.Obj)) (hz : L2.Zc cls d oe) (hd : ∃ vs, oe.data = .fields vs) :
    PSs (L2.Cx.suite X a ((a, oe) :: pn)) [st] (tH S k X W n b a cls d) := by
  have main : PSs (L2.Cx.suite X a ((a, oe) :: pn)) [st] (tSs S k (L2.Cx.suite X a ((a, oe) :: pn)) W0 b) := by
    rcases hb with ⟨A, v, pos, rfl, rfl, ho, hc⟩ | ⟨pos, rfl, rfl⟩
    · exact ss_cons (s_ret (h_ret (X := L2.Cx.suite X a ((a, oe) :: pn)) D.G.K D.G.names F ho hc)) ss_nil
    · exact ss_cons s_retN ss_nil
  refine PSs_imp main fun D' σV H ⟨φ, σ, M, x, s, C, dd, ys, σ0, Re, sr, hx, e1, e2, e3, h1, h2, h3, h4, h⟩ => ?_
  subst e1 e2 e3
  exact ⟨φ, sufS n x σ, M, Re, suite_sr hn sr hx hz hd h1 h2 h3 h4, sufR_at (X := X) (Y := L2.Cx.suite X a ((a, oe) :: pn)) (W := W) (W' := W0) rfl h⟩
end
end Mi
end
section
set_option Elab.async false
set_option linter.all false
set_option maxRecDepth 100000
/-! S39: try, whole. -/
namespace Mi
open PySem PySem.Spec PyProof.Rows
open L2 (V Hp HO SqL SqT RelV upd upd_same upd_ne ne_of ne_of_none Key Cx Inv PE PT PW PA PC PS PSs TS Ends TE TT TA VK Vis Takes WX XK Room)
section
variable {S : Link} {k : Nat} {X : Cx} {W : WX} {L : Bool}
theorem TF.drop {φ : List Addr} {H : Hp} {P : Env} {o : Oracle} {n : Option Nat} {b : List St} {x : Exc} {σ : Sl} {M : Mem} {E : Ends} (h : TF S X W φ H (sufR P o n b x σ M) E) : TF S X W φ H (sufR P o n b x σ M) (dropE n E) := by
  cases n with
  | none => exact h
  | some i =>
    have h : TF S X W φ H (goneEnd i (suiteEnd (xss P o b (σ.set i (some (.exv x.cls x.fs))) M))) E := h
    show TF S X W φ H (goneEnd i (suiteEnd (xss P o b (σ.set i (some (.exv x.cls x.fs))) M))) _
    generalize xss P o b (σ.set i (some (.exv x.cls x.fs))) M = r at h ⊢
    cases r with
    | rt v σ1 M1 =>
      have h : TF S X W φ H (goneEnd i (match v.isX with | true => .err | false => .rt v σ1 M1)) E := h
      show TF S X W φ H (goneEnd i (match v.isX with | true => .err | false => .rt v σ1 M1)) _
      cases hv : v.isX with
      | true => rw [hv] at h; exact h.elim
      | false => rw [hv] at h; exact h
    | nx _ _ => exact h.elim
    | bk _ _ => exact h.elim
    | ct _ _ => exact h.elim
    | exc _ _ _ => exact h.elim
    | err => exact h.elim
theorem hds_ok (D : DX S k X W L) (F : Facts S) (EF : ExF S) : ∀ (hs : List (Nm × Option Nat × List St)) (hds : List ExceptHandler), chkHs S.T X.N X.env.scope hs hds = true → (hs.all fun h => (S.Pr.env.excFs h.1).isSome) = true →
    ∃ l, HdsX X hds l ∧ ∀ (φ : List Addr) (σ : Sl) (M : Mem) (x : Exc) (s : Str) (C dd : Addr) (ys : List (Str × V)) (σV : L2.St) (H : Hp) (E : Ends), Rel S φ M H → SR S X φ H σ σV → noXs σ = true → (S.Pr.env.excFs x.cls).isSome = true →
      S.T.names[x.cls]? = some s → S.mg s = some (.ref C) → H dd = some (.xd ys) → RFs S φ H x.fs ys → TF S X W φ H (hnd S.Pr.env (run S.Pr k) hs x σ M) E → wMix X.K W E l (.ref C) (some dd) σV H
  | [], hds, hc, ha => by
    cases hds with
    | cons _ _ => cases hc
    | nil =>
      refine ⟨[], .nil, fun φ σ M x s C dd ys σV H E Re sr hx hk h1 h2 h3 h4 h => ?_⟩
      rw [hnd] at h
      exact h φ H σV C s dd ys Re (Keep.refl _ _) sr h1 h2 h3 h4
  | (c, n, b) :: hs, hds, hc, ha => by
    cases hds with
    | nil => cases hc
    | cons hd hds =>
      cases hd with
      | ExceptHandler ty nm body pos =>
        cases ty with
        | none => cases hc
        | some ty =>
          cases ty <;> first | (cases hc; done) | skip
          rename_i y py
          obtain ⟨c1, hc⟩ := and2 (show (gloOk S.T X.env.scope c y && ((match (generalizing := false) n, nm with
            | none, none => true
            | some i, some y => stoOk X.N X.env.scope i y && decide (X.env.scope.names.lookup y = some .local)
            | _, _ => false) && ((match (generalizing := false) b, body with
            | [.ret (some e)], [.Return (some v) _] => hOks e && chk S.T false X.N X.env.scope e v
            | [.ret none], [.Return none _] => true
            | _, _ => false) && chkHs S.T X.N X.env.scope hs hds))) = true from hc)
          obtain ⟨c2, hc⟩ := and2 hc
          obtain ⟨c3, c4⟩ := and2 hc
          obtain ⟨a1, a2⟩ := and2 (show ((S.Pr.env.excFs c).isSome && hs.all fun h => (S.Pr.env.excFs h.1).isSome) = true from ha)
          obtain ⟨l, hl, hw⟩ := hds_ok D F EF hs hds c4 a2
          obtain ⟨s', C', e1, e2⟩ := EF.cls c a1
          obtain ⟨g1, g2, g3⟩ := gloOk_of c1
          have ey : s' = y := by rw [g1] at e1; exact (Option.some.inj e1).symm
          subst ey
          have hn : NmOk X n nm := by
            cases n with
            | none =>
              cases nm with
              | none => trivial
              | some _ => cases c2
            | some i =>
              cases nm with
              | none => cases c2
              | some z =>
                obtain ⟨d1, d2⟩ := and2 (show (stoOk X.N X.env.scope i z && decide (X.env.scope.names.lookup z = some .local)) = true from c2)
                obtain ⟨d1, _⟩ := and2 (show (decide (X.N[i]? = some z) && locK (X.env.scope.names.lookup z)) = true from d1)
                exact ⟨of_decide_eq_true d1, of_decide_eq_true d2⟩
          have hb : ∃ st, body = [st] ∧ ((∃ A v pos, b = [.ret (some A)] ∧ st = .Return (some v) pos ∧ hOks A = true ∧ chk S.T false X.N X.env.scope A v = true) ∨ (∃ pos, b = [.ret none] ∧ st = .Return none pos)) := by
            split at c3
            · obtain ⟨q1, q2⟩ := and2 c3
              exact ⟨_, rfl, .inl ⟨_, _, _, rfl, rfl, q1, q2⟩⟩
            · exact ⟨_, rfl, .inr ⟨_, rfl, rfl⟩⟩
            · cases c3
          obtain ⟨st, rfl, hb⟩ := hb
          refine ⟨(.ref C', n, tH S k X W n b) :: l, .cons ⟨g2, g3, .inl (by rw [D.G.mg]; exact e2)⟩ hn (fun a oe cls d pn hz hd => suite_ok D F hn hb a oe cls d pn hz hd) hl, fun φ σ M x s C dd ys σV H E Re sr hx hk h1 h2 h3 h4 h => ?_⟩
          have hh : hnd S.Pr.env (run S.Pr k) ((c, n, b) :: hs) x σ M = (match (S.Pr.env.mro x.cls).contains c with | true => sufR S.Pr.env (run S.Pr k) n b x σ M | false => hnd S.Pr.env (run S.Pr k) hs x σ M) := by
            cases n <;> (rw [hnd.eq_def]; rfl)
          rw [hh] at h
          refine ⟨(S.Pr.env.mro x.cls).contains c, by rw [D.G.K]; exact EF.one x.cls c s _ C C' hk a1 h1 h2 e1 e2, fun hb1 a na => ?_, fun hb0 => ?_⟩
          · rw [hb1] at h
            refine ⟨φ, σ, M, x, s, C, dd, ys, σV, Re, sr, hx, rfl, rfl, rfl, h1, h2, h3, h4, ?_⟩
            exact TF.drop h
          · rw [hb0] at h
            exact hw φ σ M x s C dd ys σV H E Re sr hx hk h1 h2 h3 h4 h
def tB (S : Link) (k : Nat) (X : Cx) (b : List St) (W' : WX) : TS := fun E σV H => ∃ φ σ M, Rel S φ M H ∧ SR S X φ H σ σV ∧ noXs σ = true ∧ endX S.Pr.env (xss S.Pr.env (run S.Pr k) b σ M) = true ∧ TF S X W' φ H (xss S.Pr.env (run S.Pr k) b σ M) E
theorem try_ok (D : DX S k X W L) (F : Facts S) (EF : ExF S) {b : List St} {hs : List (Nm × Option Nat × List St)} {body : List Stmt} {hds : List ExceptHandler} {pos : Pos}
    (hb : ∀ (W' : WX) (pn : List (Addr × PySem.Obj)) (xe : Value → Shared → Prop), DX S k (X.tr pn xe) W' L → PSs (X.tr pn xe) body (tSs S k (X.tr pn xe) W' b)) (hc : chkHs S.T X.N X.env.scope hs hds = true) : PS X (.Try body hds [] [] pos) (tSt S k X W (.try b hs)) := by
  refine ⟨fun pins s σV H E I h => ?_⟩
  obtain ⟨φ, σ, M, Re, sr, h⟩ := h
  rw [xs] at h
  cases ht : tryOk S.Pr.env σ hs with
  | false => rw [ht] at h; exact h.elim
  | true =>
    rw [ht] at h
    obtain ⟨hx, t2⟩ := and2 (show (noXs σ && (!hs.isEmpty && hs.all fun h => (S.Pr.env.excFs h.1).isSome)) = true from ht)
    obtain ⟨t2, t3⟩ := and2 t2
    obtain ⟨l, hl, hw⟩ := hds_ok D F EF hs hds hc t3
    cases hds with
    | nil =>
      cases hs with
      | nil => cases t2
      | cons _ _ => cases hc
    | cons h0 hds =>
      refine (ps_try_mix (tb := tB S k X b) D.sk D.fr D.G.nd D.tk (fun W' pn xe tk' po => PSs_imp (hb W' pn xe ⟨⟨D.G.prog, D.G.w, D.G.K, D.G.mg, D.G.nd, D.G.names, D.G.calm, D.G.room, D.G.gb, D.G.free⟩, fun z => D.LO z, tk', po, D.st, D.kd, D.sk, D.fr⟩) fun E' σV' H' q => ?_) hl).run pins s σV H E I ?_
      · obtain ⟨φ1, σ1, M1, R1, s1, x1, en, q⟩ := q
        exact ⟨φ1, σ1, M1, R1, SR.to (X := X) (Y := X.tr pn xe) rfl rfl rfl s1 x1, TF.to (X := X) (Y := X.tr pn xe) rfl rfl rfl en q⟩
      · have h : TF S X W φ H (match endX S.Pr.env (xss S.Pr.env (run S.Pr k) b σ M) with
            | true => match xss S.Pr.env (run S.Pr k) b σ M with
              | .exc x σ1 M1 => hnd S.Pr.env (run S.Pr k) hs x σ1 M1
              | r => r
            | false => .err) E := h
        cases he : endX S.Pr.env (xss S.Pr.env (run S.Pr k) b σ M) with
        | false => rw [he] at h; exact h.elim
        | true =>
          rw [he] at h
          refine ⟨φ, σ, M, Re, sr, hx, he, ?_⟩
          cases e : xss S.Pr.env (run S.Pr k) b σ M with
          | exc x σ1 M1 =>
            rw [e] at h he
            obtain ⟨z1, z2⟩ := and2 (show (noXs σ1 && (S.Pr.env.excFs x.cls).isSome) = true from he)
            exact fun φ' H' σV' C s d ys R K sr' h1 h2 h3 h4 => hw φ' σ1 M1 x s C d ys σV' H' E R sr' z1 z2 h1 h2 h3 h4 (TF.keep K h)
          | nx _ _ => rw [e] at h; exact h
          | bk _ _ => rw [e] at h; exact h
          | ct _ _ => rw [e] at h; exact h
          | rt _ _ _ => rw [e] at h; exact h
          | err => rw [e] at h; exact h
end
end Mi
end
section
set_option Elab.async false
set_option linter.all false
set_option maxRecDepth 100000
set_option maxHeartbeats 1000000
/-! S40: the run of an `__init__` that holds the cell of its class. -/
namespace Mi
open PySem PySem.Spec PyProof.Rows
open L2 (V Hp HO SqL SqT RelV upd upd_same upd_ne ne_of ne_of_none Key Cx Inv PE PT PW PA PC PS PSs TS Ends TE TT TA VK Vis Takes WX XK Room thn Vals CallR Env0 frs)
/-- the scope of such an `__init__` -/
structure InS (N ps : List Str) (sc : Scope) : Prop where
  kind : sc.kind = .function
  co : sc.isCoroutine = false
  gen : sc.isGenerator = false
  nd : N.Nodup
  eq : N = ps
  par : ∀ x ∈ ps, sc.names.lookup x = some .local
  cel : ∀ y ∈ sc.names, y.2 ≠ .cell
  fre : ∀ y ∈ sc.names, y.2 = .free → y.1 = "__class__"
  ncl : ("__class__" : Str) ∉ N
/-- its body's context -/
def inX (S : Link) (base : Heap) (N : List Str) (q : Str) (scope : Scope) (cc : Addr) (f : Addr) (cdv : Value) (A : Around) (outer : List PySem.Env) (s : Shared) (H : Hp) (E : XK) : Cx where
  prog := S.P
  w := S.w
  K := S.K
  mg := S.mg
  base := base
  A := A.deeper (PySem.W.ksEnv q scope s.heap.objs.size f cdv cc)
  N := N
  s_0 := s
  H_0 := H
  env := PySem.W.ksEnv q scope s.heap.objs.size f cdv cc
  outer := outer
  stack := PySem.W.ksEnv q scope s.heap.objs.size f cdv cc :: outer
  ex := []
  fn := fun _ => false
  calm := true
  pn := []
  xe := fun e s' => wpAny (model S.P S.w) (A.deeper (PySem.W.ksEnv q scope s.heap.objs.size f cdv cc)) (leaving (PySem.W.ksEnv q scope s.heap.objs.size f cdv cc) e) (fun _ s'' => L2.CX S.P S.w outer H s E e s'') (fun e' s'' => L2.CX S.P S.w outer H s E e' s'') s'
theorem run_init {S : Link} {base : Heap} {f cc D : Addr} {name qual : Str} {params : Arguments} {body : List Stmt} {scope : Scope} {dV kV doc pm cdv ct oc cl : Value} {an od cld : Option Addr} {osl csl : Array (Option Value)} {N ps : List Str}
    (lk : S.K.lookup f = some ⟨oc, od, .func (PySem.W.ksFn name qual params body scope dV kV doc pm an cdv ct cc), osl⟩) (hcd : PySem.W.codeIn S.K cdv qual = true) (hcl : S.K.lookup cc = some ⟨cl, cld, .cell (some (.ref D)), csl⟩) (Z : InS N ps scope)
    {A : Around} {outer : List PySem.Env} {s : Shared} {H : Hp} {args : Args} {us : List Value} {vs : List V} {Q : L2.VK} {E : XK} {k : Nat} (hr : Room k A) (e0 : Env0 S.P S.w S.K S.mg base A outer s H)
    (hb : BindsTo s (PySem.W.ksFn name qual params body scope dV kV doc pm an cdv ct cc) args (ps.zip us)) (r : Vals vs us) (hl : vs.length = ps.length)
    (hbody : ∀ s1, Inv (inX S base N qual scope cc f cdv A outer s H E) [] (L2.start N vs) H s1 → _root_.PySem.wpAt (model S.P S.w) (inX S base N qual scope cc f cdv A outer s H E).A (.func body (inX S base N qual scope cc f cdv A outer s H E).env) (execs body (inX S base N qual scope cc f cdv A outer s H E).env)
      (L2.SP (inX S base N qual scope cc f cdv A outer s H E) [] { nx := fun _ H' => Q .non H', rt := Q }) (inX S base N qual scope cc f cdv A outer s H E).xe s1) :
    codeAny (model S.P S.w) A (.call (.ref f) args) (L2.CR (L2.CX S.P S.w) outer S.P S.w H s Q E) s := by
  have KX : S.K.In s.heap := e0.mod.kin.keeps fun b o e => (e0.bs b o e).1
  have lim : s.heap.NoLimit := e0.mod.nolimit.keeps fun b o e => (e0.bs b o e).1
  refine codeAny_call_function hr.depth (KX _ _ lk) rfl Z.co Z.gen rfl (PySem.W.codeRec_of KX hcd) (hb _ _ _ _ ?_)
  refine wpAny_newFunctionEnv Z.cel (fun y hy => Z.par _ (List.of_mem_zip hy).1) (fun h₁ hns hsb => ⟨lim.fresh _ hsb, ?_⟩) Z.kind
  have kp : ∀ b o, s.heap.get? b = some o → h₁.get? b = some o := fun b o e => hsb.extBut b o (Nat.ne_of_lt (Heap.lt_size e)) (Heap.get?_push_of_some _ e)
  have hlu : vs.length = us.length := r.length
  have onlyC : ∀ y c, ([("__class__", cc)] : List (Str × Addr)).lookup y = some c → y = "__class__" ∧ c = cc := fun y c e => by
    rw [List.lookup_cons] at e
    split at e
    · rename_i hy
      exact ⟨by simpa using hy, (Option.some.inj e).symm⟩
    · cases e
  have hst : L2.start N vs = vs.map some := by
    unfold L2.start
    rw [Z.eq, hl, Nat.sub_self]
    exact List.append_nil _
  have mlook : ∀ (j : Nat) (y : Str) (u : Value), ps[j]? = some y → us[j]? = some u → (ps.zip us).reverse.lookup y = some u := fun j y u h1 h2 => by
    refine lookup_nd ?_ (List.mem_reverse.mpr ?_)
    · rw [List.map_reverse, keys_zip, List.take_of_length_le (by omega)]
      exact List.pairwise_reverse.mpr ((Z.eq ▸ Z.nd : ps.Nodup).imp fun h z => h z.symm)
    · refine List.mem_of_getElem? (i := j) ?_
      rw [List.getElem?_zip_eq_some]
      exact ⟨h1, h2⟩
  have bcc := e0.mod.kin _ _ hcl
  have I : Inv (inX S base N qual scope cc f cdv A outer s H E) [] (L2.start N vs) H { s with heap := h₁, toks := s.toks + (ps.zip us).length } := by
    refine ⟨⟨e0.mod, Z.kind, rfl, rfl, Nat.le_refl _, fun y z c e1 e2 => (onlyC y c e1).1.trans (onlyC z c e2).1.symm, fun y hy => ?_, fun y c z _ => (by cases (show false = true from z)), fun _ => hr.hd, Around.frames_deeper e0.frames, .inr ⟨rfl, rfl⟩, fun b z => (nomatch (show b ∈ ([] : List Addr) from z)), e0.bs, e0.bsz, fun b _ _ z => (nomatch (show b ∈ ([] : List Addr) from z)),
        fun b z => (nomatch (show b ∈ ([] : List Addr) from z)), e0.funs, e0.frf⟩,
      rfl, e0.bare, L2.Un.kept kp, ⟨_, hns, fun i y v e1 e2 e3 => ?_⟩, fun y c e => ?_, e0.hok.fresh (Nat.le_refl _), fun y c e => ?_, fun p hp => (nomatch (show p ∈ ([] : List (Addr × PySem.Obj)) ++ [] from hp)), e0.hok.kept kp, ?_⟩
    · have hy : scope.names.lookup y = some .cell ∨ scope.names.lookup y = some .free := hy
      rcases hy with hy | hy
      · exact (Z.cel _ (PySem.mem_of_lookup hy) rfl).elim
      · have := Z.fre _ (PySem.mem_of_lookup hy) rfl
        have : y = "__class__" := this
        subst this
        exact ⟨cc, rfl⟩
    · have e1 : N[i]? = some y := e1
      have e2 : (L2.start N vs)[i]? = some (some v) := e2
      rw [hst, List.getElem?_map, Option.map_eq_some_iff] at e2
      obtain ⟨v', hv, ev⟩ := e2
      cases ev
      obtain ⟨u, hu, ru⟩ := r.get hv
      have e1' : ps[i]? = some y := by rw [← Z.eq]; exact e1
      exact ⟨u, ru, .inl ⟨Z.par y (List.mem_of_getElem? e1'), mlook i y u e1' hu⟩⟩
    · obtain ⟨_, rfl⟩ := onlyC y c e
      exact ⟨_, _, kp _ _ (e0.bs _ _ bcc).1, rfl⟩
    · obtain ⟨_, rfl⟩ := onlyC y c e
      exact (e0.bs _ _ bcc).2
    · show (L2.start N vs).length = N.length
      rw [hst, List.length_map, hl, Z.eq]
  refine PySem.ks_codeAny_funcAt ?_
  refine _root_.PySem.wpAt_mono (hbody _ I) (fun fl s' hs => ?_) fun e s' hs => hs
  cases fl with
  | ret u =>
    obtain ⟨v, σ', H', J, rv, q⟩ := hs
    exact ⟨v, H', J.os, J.bare, J.base, J.hok, rv, q⟩
  | next =>
    obtain ⟨σ', H', J, q⟩ := hs
    exact ⟨V.non, H', J.os, J.bare, J.base, J.hok, rfl, q⟩
  | brk =>
    obtain ⟨_, _, _, q⟩ := hs
    exact q.elim
  | cont =>
    obtain ⟨_, _, _, q⟩ := hs
    exact q.elim
end Mi
end
section
set_option Elab.async false
set_option linter.all false
set_option maxRecDepth 100000
set_option maxHeartbeats 4000000
/-! S41: own exception classes over Exception: what their classes are, how a field is put. -/
namespace PySem
namespace MiX
open PySem.W PySem.Calls PyProof.Rows PySem.HandSPX
open Builtin Builtin.ObjectAttr
abbrev exT : List Value := [.type "Exception", .type "BaseException", .type "object"]
/-- own classes, then Exception's mro -/
def refsX : List Value → Bool
  | .ref _ :: r => refsX r
  | l => l == exT
theorem refsX_cases : ∀ l : List Value, refsX l = true → (∃ c r, l = .ref c :: r ∧ refsX r = true) ∨ l = exT := by
  intro l h
  cases l with
  | nil => exact .inr (beq_iff_eq.mp h)
  | cons a r => cases a <;> first | exact .inl ⟨_, r, rfl, h⟩ | exact .inr (beq_iff_eq.mp h)
theorem refsX_pass (self : Value) : ∀ l : List Value, refsX l = true → refuseLoop self "__setattr__" l = pure () := by
  intro l
  induction l with
  | nil => intro h; exact absurd h (by decide)
  | cons a r ih =>
    intro h
    rcases refsX_cases (a :: r) h with ⟨c, r', q, z⟩ | q
    · obtain ⟨rfl, rfl⟩ := List.cons.inj q
      rw [refuseLoop_ref]
      exact ih z
    · rw [q]
      exact F.store_Exception.passes self
theorem refsX_contains (Y : String) : ∀ l : List Value, refsX l = true → l.contains (.type Y) = exT.contains (.type Y) := by
  intro l
  induction l with
  | nil => intro h; exact absurd h (by decide)
  | cons a r ih =>
    intro h
    rcases refsX_cases (a :: r) h with ⟨c, r', q, z⟩ | q
    · obtain ⟨rfl, rfl⟩ := List.cons.inj q
      rw [List.contains_cons, ih z]
      rfl
    · rw [q]
theorem refsX_ne {l : List Value} (h : refsX l = true) : l.isEmpty = false := by
  cases l with
  | nil => exact absurd h (by decide)
  | cons _ _ => rfl
section
variable {prog : Program} {w : World} {A : Around} {E : Value → Shared → Prop} {R : Result → Shared → Prop} {hp : Heap} {g : Array GenState} {d : Drawn} {t : Nat} {os : OsState}
theorem osaX_new {K : W.Frag} {name : Str} {tk : Tok} {v : Value} {x C : Addr} {fv : Array Value} {cd : ClassData}
    (X : K.In hp) (hx : hp.get? x = some { cls := .ref C, data := .fields fv }) (hcd : W.clsIn K C = some cd) (hm : refsX cd.mro = true) (hh : cd.hasDict = true) (ha : W.findIn K (.ref C) name = some none)
    (hq : ∀ h' tk' dx, (∀ b o, b ≠ x → hp.get? b = some o → h'.get? b = some o) → hp.objs.size ≤ dx → dx ≠ x → h'.get? x = some { cls := .ref C, dict := some dx, data := .fields fv } →
      h'.Ns1 dx (fun y => if y = name then some v else none) → R (.ok (.ret .none)) ⟨h', g, d, tk', os⟩) :
    codeAny (model prog w) A (.call (.builtin "object.__setattr__") ⟨[.ref x, .str name tk, v], []⟩) R ⟨hp, g, d, t, os⟩ := by
  have I : W.InstAt hp x { cls := .ref C, data := .fields fv } C none := ⟨hx, rfl, rfl, trivial⟩
  have SF := F.store_object
  have ne := refsX_ne hm
  have hob : cd.mro.contains (.type "object") = true := (refsX_contains "object" _ hm).trans (by decide +kernel)
  have hxs : x ≠ hp.objs.size := Nat.ne_of_lt (Heap.lt_size hx)
  have sub : W.Looks (model prog w) hp (isInstance (.ref x) (.type "object")) true := I.type.andThen (W.looks_mroIn X (by unfold W.mroIn; rw [hcd, Option.bind_some, if_neg (by rw [ne]; decide), hob]))
  refine codeAny_call_builtin SF.slot.plain SF.entry (@W.check_slot (model prog w) _ _ ⟨hp, g, d, t, os⟩ "object.__setattr__" "object" "__setattr__" (.ref x) [.str name tk, v] [] _ SF.kind SF.split sub (SF.args (.ref x) (.str name tk) v) ?_)
  have hmr : W.Looks (model prog w) hp (mroOf (.ref C)) cd.mro := (W.looks_clsIn X hcd).andThen .now
  have L3 : W.Looks (model prog w) hp (storeTaker? none) none := .now
  have hcls : W.Looks (model prog w) hp (classData C) cd := W.looks_clsIn X hcd
  rw [W.osa_eq, refuse_eq]
  refine wpAny_bind (wpAny_bind (I.type.at (wpAny_bind (hmr.at ?_))))
  rw [refsX_pass _ _ hm]
  refine wpAny_pure (wpAny_bind (I.type.at (wpAny_bind ((W.looks_findIn X ha).at (wpAny_bind (L3.at ?_))))))
  show wpAny _ _ (storeInOwnDict (.ref x) (.ref C) (.str name tk) name v false) _ _ _
  obtain ⟨nm, bs, mro, ns, qn, hd, sn, sb, ab, col, del⟩ := cd
  dsimp only at hh
  subst hh
  unfold storeInOwnDict ownDictForStores
  repeat (first | with_reducible refine store_in_new ?_ ?_ | with_reducible refine wpAny_loadPart_at hx ?_ | with_reducible refine hcls.at ?_ | wp_step)
  · exact ⟨_, #[], _, (Heap.get?_update_ne _ _ _ _ hxs.symm).trans (Heap.get?_push_at rfl rfl), rfl, fun e he => absurd he (by simp), fun _ => rfl⟩
  · intro h' tk' hn' hs
    have hx₁ : (hp.push { cls := .type "dict", data := .dict #[] }).get? x = some { cls := .ref C, data := .fields fv } := Heap.get?_push_of_some _ hx
    refine hq h' tk' hp.objs.size (fun b o hb ho => ?_) (Nat.le_refl _) hxs.symm ?_ hn'
    · exact (hs.2 b (Nat.ne_of_lt (Heap.lt_size ho))).trans ((Heap.get?_update_ne _ _ _ _ hb).trans (Heap.get?_push_of_some _ ho))
    · exact (hs.2 x hxs).trans (Heap.get?_update_self _ hx₁ rfl)
theorem osaX_old {K : W.Frag} {name : Str} {tk : Tok} {v : Value} {x C dx : Addr} {fv : Array Value} {cd : ClassData} {m0 : Str → Option Value} {nl : List Str}
    (X : K.In hp) (hx : hp.get? x = some { cls := .ref C, dict := some dx, data := .fields fv }) (hns : hp.Ns1 dx m0) (hw : Within m0 nl) (hz : nl.length ≤ 1000) (hcd : W.clsIn K C = some cd) (hm : refsX cd.mro = true) (hh : cd.hasDict = true)
    (ha : W.findIn K (.ref C) name = some none)
    (hq : ∀ h' tk', (∀ b o, b ≠ dx → hp.get? b = some o → h'.get? b = some o) → h'.Ns1 dx (fun y => if y = name then some v else m0 y) → R (.ok (.ret .none)) ⟨h', g, d, tk', os⟩) :
    codeAny (model prog w) A (.call (.builtin "object.__setattr__") ⟨[.ref x, .str name tk, v], []⟩) R ⟨hp, g, d, t, os⟩ := by
  obtain ⟨oD, esD, epD, hoD, hdD, _⟩ := hns.count hw
  have I : W.InstAt hp x { cls := .ref C, dict := some dx, data := .fields fv } C (some oD) := ⟨hx, rfl, rfl, hoD⟩
  have SF := F.store_object
  have ne := refsX_ne hm
  have hob : cd.mro.contains (.type "object") = true := (refsX_contains "object" _ hm).trans (by decide +kernel)
  have sub : W.Looks (model prog w) hp (isInstance (.ref x) (.type "object")) true := I.type.andThen (W.looks_mroIn X (by unfold W.mroIn; rw [hcd, Option.bind_some, if_neg (by rw [ne]; decide), hob]))
  refine codeAny_call_builtin SF.slot.plain SF.entry (@W.check_slot (model prog w) _ _ ⟨hp, g, d, t, os⟩ "object.__setattr__" "object" "__setattr__" (.ref x) [.str name tk, v] [] _ SF.kind SF.split sub (SF.args (.ref x) (.str name tk) v) ?_)
  have hmr : W.Looks (model prog w) hp (mroOf (.ref C)) cd.mro := (W.looks_clsIn X hcd).andThen .now
  have L3 : W.Looks (model prog w) hp (storeTaker? none) none := .now
  have hcls : W.Looks (model prog w) hp (classData C) cd := W.looks_clsIn X hcd
  rw [W.osa_eq, refuse_eq]
  refine wpAny_bind (wpAny_bind (I.type.at (wpAny_bind (hmr.at ?_))))
  rw [refsX_pass _ _ hm]
  refine wpAny_pure (wpAny_bind (I.type.at (wpAny_bind ((W.looks_findIn X ha).at (wpAny_bind (L3.at ?_))))))
  show wpAny _ _ (storeInOwnDict (.ref x) (.ref C) (.str name tk) name v false) _ _ _
  obtain ⟨nm, bs, mro, ns, qn, hd, sn, sb, ab, col, del⟩ := cd
  dsimp only at hh
  subst hh
  unfold storeInOwnDict ownDictForStores
  repeat (first | with_reducible refine OEX.store_in_old hns hw hz ?_ | with_reducible refine wpAny_loadPart_at hx ?_ | with_reducible refine hcls.at ?_ | wp_step)
  intro h' tk' hn' hs
  exact hq h' tk' (fun b o hb ho => (hs.2 b hb).trans ho) hn'
end
end MiX
end PySem
end
section
set_option Elab.async false
set_option linter.all false
set_option maxRecDepth 100000
set_option maxHeartbeats 1000000
/-! S42: fields of such an exception; super().__init__(..) at the node. -/
namespace Mi
open PySem PySem.Spec PyProof.Rows
open L2 (V Hp HO SqL SqT RelV upd upd_same upd_ne ne_of ne_of_none Key Cx Inv PE PT PW PA PC PS PSs TS Ends TE TT TA VK Vis Takes WX XK Room thn Vals CallR Env0 frs exo exd exo_ok exd_ok exo_at exd_at relO_put within_of RelO Mut Gl)
open PySem.MiX (refsX osaX_new osaX_old)
/-- what the written part says of an own error class over Exception -/
structure OexX (K : PySem.W.Frag) (C : Addr) : Prop where
  cls : ∃ nm q N bs bm sn sub ab col dd k0 k1 k2 k3 k5, K.lookup C = some (excClassObj nm q C N bs bm true sn sub ab col dd k0 k1 k2 k3 k5 "Exception.__new__") ∧ refsX bm = true ∧ PySem.W.alongIn K "__init__" bm = some (some (.builtin "Exception.__init__"))
  sa : PySem.W.findIn K (.ref C) "__setattr__" = some (some (.builtin "object.__setattr__"))
  exC : PySem.W.subIn K (.ref C) (.type "BaseException") = some true
  tyC : PySem.W.typeIn K (.ref C) = some (.type "type")
  kC : PySem.W.keepIn K (.ref C) = true
section
variable {X : Cx} {pins : List (Addr × PySem.Obj)} {σ : L2.St} {H : Hp} {s : Shared} {a C dx : Addr} {f : Str} {y : V} {u : Value} {fs : List (Str × V)} {Q : Unit → Shared → Prop} {E : Value → Shared → Prop} {A : Around}
theorem xset_new (T : OexX X.K C) (I : Inv X pins σ H s) (e : H a = some (exo a C none)) (hno : PySem.W.findIn X.K (.ref C) f = some none) (ry : RelV y u)
    (h : ∀ dx s', H dx = none → dx ≠ a → Inv X pins σ (upd (upd H dx (exd dx [(f, y)])) a (exo a C (some dx))) s' → Q () s') : wpAny (PySem.model X.prog X.w) A (PySem.setAttr (.ref a) f u) Q E s := by
  obtain ⟨nm, q, N, bs, bm, sn, sub, ab, col, dd, k0, k1, k2, k3, k5, hC, hbm, _⟩ := T.cls
  have hcl : PySem.W.clsIn X.K C = some { name := nm, bases := bs, mro := .ref C :: bm, ns := N, qualname := q, hasDict := true, slotNames := sn, subclasses := sub, abstract := ab, collection := col, hasDel := false } := by
    unfold PySem.W.clsIn
    rw [hC] <;> rfl
  obtain ⟨t1, ho⟩ := exo_at I.hok e
  obtain ⟨hp, g, d, t, os⟩ := s
  refine PySem.W.set_plain I.kIn (ox := { cls := .ref C, dict := none, data := .fields #[.ref t1, .none, .none, .none, .bool false, .none] }) (od := none) ⟨ho, rfl, rfl, trivial⟩ T.sa ?_
  refine osaX_new I.kIn ho hcl (show refsX (.ref C :: bm) = true from hbm) rfl hno fun h' tk' dx k dn dne hx hn => ?_
  have hnd : H dx = none := I.hok.fresh dn
  have g1 : ∀ b, b ≠ a → (h'.update a fun _ => { cls := .ref C, dict := none, data := .fields #[.ref t1, .none, .none, .none, .bool false, .none] }).get? b = h'.get? b := fun b hb => Heap.get?_update_ne _ _ _ _ hb
  have ga : (h'.update a fun _ => { cls := .ref C, dict := none, data := .fields #[.ref t1, .none, .none, .none, .bool false, .none] }).get? a = some { cls := .ref C, dict := none, data := .fields #[.ref t1, .none, .none, .none, .bool false, .none] } := Heap.get?_update_self _ hx rfl
  have hn1 := hn.at (h' := h'.update a fun _ => { cls := .ref C, dict := none, data := .fields #[.ref t1, .none, .none, .none, .bool false, .none] }) fun o q => (g1 dx dne).trans q
  have J1 := I.laid (t' := tk') (a := dx) (o := exd dx [(f, y)]) (fun b o q => by
    by_cases hb : b = a
    · subst hb
      rw [ho] at q
      cases q
      exact ga
    · exact (g1 b hb).trans (k b o hb q)) dn (exd_ok hn1 (relO_put (fs := []) ry fun _ => True.intro))
  have J2 := J1.write (t' := tk') (h' := h') (x := a) (e := a) (o := exo a C (some dx)) (by rw [upd_ne (Ne.symm dne), e]; exact True.intro) (.inl rfl) (fun b o hb q => (g1 b hb).symm.trans q) ⟨_, hx⟩ (exo_ok hx)
  exact h dx _ hnd dne J2
theorem xset_old (T : OexX X.K C) (I : Inv X pins σ H s) (e : H a = some (exo a C (some dx))) (ed : H dx = some (exd dx fs)) (hl : fs.length ≤ 900) (hno : PySem.W.findIn X.K (.ref C) f = some none) (ry : RelV y u)
    (h : ∀ s', Inv X pins σ (upd H dx (exd dx ((f, y) :: fs))) s' → Q () s') : wpAny (PySem.model X.prog X.w) A (PySem.setAttr (.ref a) f u) Q E s := by
  obtain ⟨nm, q, N, bs, bm, sn, sub, ab, col, dd, k0, k1, k2, k3, k5, hC, hbm, _⟩ := T.cls
  have hcl : PySem.W.clsIn X.K C = some { name := nm, bases := bs, mro := .ref C :: bm, ns := N, qualname := q, hasDict := true, slotNames := sn, subclasses := sub, abstract := ab, collection := col, hasDel := false } := by
    unfold PySem.W.clsIn
    rw [hC] <;> rfl
  obtain ⟨t1, ho⟩ := exo_at I.hok e
  obtain ⟨mA, hns, rel⟩ := exd_at I.hok ed
  have hw := within_of rel
  obtain ⟨hp, g, d, t, os⟩ := s
  obtain ⟨oD, _, _, hoD, _, _⟩ := hns.count hw
  refine PySem.W.set_plain I.kIn (ox := { cls := .ref C, dict := some dx, data := .fields #[.ref t1, .none, .none, .none, .bool false, .none] }) (od := some oD) ⟨ho, rfl, rfl, hoD⟩ T.sa ?_
  refine osaX_old I.kIn ho hns hw (by rw [List.length_map]; omega) hcl (show refsX (.ref C :: bm) = true from hbm) rfl hno fun h' tk' k hn => ?_
  have hd : ∃ o, h'.get? dx = some o := by
    obtain ⟨o, _, _, e', _⟩ := hn
    exact ⟨o, e'⟩
  exact h _ (I.write (t' := tk') (x := dx) (e := dx) (o := exd dx ((f, y) :: fs)) (by rw [ed]; exact True.intro) (.inl rfl) k hd (exd_ok hn (relO_put ry rel)))
/-- Exception.__init__ by its wrapper: nothing of it is told -/
theorem xinit_ok {us : List Value} {v : Addr} {Q : Value → Shared → Prop} (T : OexX X.K C) (I : Inv X pins σ H s) (e : H a = some (exo a C none)) (hu : s.heap.get? v = some (ESX.bw a)) (hl : us.length ≤ sizeLine) (h : ∀ s', Inv X pins σ H s' → Q .none s') :
    wpAny (PySem.model X.prog X.w) A (call (.ref v) us) Q E s := by
  obtain ⟨nm, q, N, bs, bm, sn, sub, ab, col, dd, k0, k1, k2, k3, k5, hC, hbm, _⟩ := T.cls
  obtain ⟨t1, ho⟩ := exo_at I.hok e
  obtain ⟨hp, g, d, t, os⟩ := s
  refine ESX.call_bw (I.kIn _ _ hC) ho hu hl fun h' t2 k hx => ?_
  have J := I.write (t' := t) (x := a) (e := a) (o := exo a C none) (by rw [e]; exact True.intro) (.inl rfl) k ⟨_, hx⟩ (exo_ok hx)
  have eu : upd H a (exo a C none) = H := by
    funext b
    by_cases hb : b = a
    · rw [hb, upd_same, e]
    · rw [upd_ne hb]
  rw [eu] at J
  exact h _ J
end
end Mi
end
section
set_option Elab.async false
set_option linter.all false
set_option maxRecDepth 100000
set_option maxHeartbeats 1000000
/-! S43: super().__init__(..) at the node. -/
namespace Mi
open PySem PySem.Spec PyProof.Rows
open L2 (V Hp HO SqL SqT RelV upd upd_same upd_ne ne_of ne_of_none Key Cx Inv PE PT PW PA PC PS PSs TS Ends TE TT TA VK Vis Takes WX XK Room thn Vals CallR Env0 frs exo exd exo_ok exd_ok exo_at exd_at relO_put within_of RelO Mut Gl)
/-- what such an `__init__` stands on -/
structure SupF (S : Link) (f cc cda C : Addr) (params : Arguments) (scope : Scope) (x0 : Str) : Prop where
  ks : scope.names.lookup ("super" : Str) = some .globalImplicit
  kc : scope.names.lookup ("__class__" : Str) = some .free
  k0 : scope.names.lookup x0 = some .local
  hp : ∃ ar, (params.posonlyargs ++ params.args).head? = some ar ∧ ar.arg = x0
  kd : scope.kind = .function
  code : ∃ ccl cdd vs ccs file tf, S.K.lookup cda = some ⟨ccl, cdd, .fields vs, ccs⟩ ∧ vs[2]? = some (.str file tf) ∧ ((S.P.main.file : Str) == file) = true
  cell : ∃ cl cld csl, S.K.lookup cc = some ⟨cl, cld, .cell (some (.ref C)), csl⟩
  sup : S.mg "super" = none
  top : (S.P.main.scope.names.lookup ("super" : Str)).isSome = false
  st : PySem.W.nsIn S.K cStatics "thirdparty.any" = some none
theorem meth_eqS {X : Cx} {o : Expr} {m : Str} {apos pos : Pos} {args : List Expr} (hp : (backTo pos (starEach args X.env)).any (·.1) = false) (hz : args.length < 20) (hl : (apos.endLine == pos.line) = true) :
    eval (.Call (.Attribute o m apos) args [] pos) X.env = (do
      let ov ← attributeBase o m X.env (eval o X.env)
      standAt apos.atName
      let (f, first) ← holding [ov] (getMethod ov m (do return (← importBound o X.env).getD true))
      callWith pos f first (backTo pos (starEach args X.env)) []) := by
  have hform : methodCallForm (args.length + ([] : List Keyword).length) (backTo pos (starEach args X.env)) (backToKw pos (keywordEach [] X.env)) = true := few_of (X := X) (pos := pos) hp hz
  have hpos : methodCallPos true o X.env apos pos = pure pos := by unfold methodCallPos; simp [hl]
  rw [PySem.arm_eval_Call]
  unfold methodCall
  rw [hform, hpos]
  unfold calleeOf
  simp only [if_true, pure_bind]
  rfl
theorem sup_at {S : Link} {base : Heap} {N : List Str} {qual q : Str} {scope : Scope} {f cc cda C a : Addr} {A : Around} {outer : List PySem.Env} {s0 s : Shared} {H0 H : Hp} {E0 : XK} {name x0 : Str} {params : Arguments} {body : List Stmt} {dV kV doc pm ct oc : Value} {an od : Option Addr} {osl : Array (Option Value)}
    {pins : List (Addr × PySem.Obj)} {σ : L2.St} {ta : TA} {e : Expr} {es : List Expr} {p0 p1 p2 p3 p4 : Pos} {Q : Shared → Prop}
    (lk : S.K.lookup f = some ⟨oc, od, .func (PySem.W.ksFn name qual params body scope dV kV doc pm an (.ref cda) ct cc), osl⟩)
    (F : SupF S f cc cda C params scope x0) (T : OexX S.K C) (I : Inv (inX S base N q scope cc f (.ref cda) A outer s0 H0 E0) pins σ H s) (hN : N[0]? = some x0) (h0 : σ[0]? = some (some (.ref a))) (ea : H a = some (exo a C none))
    (hz : (e :: es).length < 20) (hl : (p2.endLine == p3.line) = true) (he : starEach (e :: es) (inX S base N q scope cc f (.ref cda) A outer s0 H0 E0).env = (false, eval e (inX S base N q scope cc f (.ref cda) A outer s0 H0 E0).env) :: starEach es (inX S base N q scope cc f (.ref cda) A outer s0 H0 E0).env)
    (hpl : ∀ pos, (backTo pos (starEach es (inX S base N q scope cc f (.ref cda) A outer s0 H0 E0).env)).any (·.1) = false)
    (ha : PA (inX S base N q scope cc f (.ref cda) A outer s0 H0 E0) (e :: es) ta)
    (h : ta σ H fun vs H1 => vs.length ≤ 1000 ∧ H1 a = some (exo a C none) ∧ ∀ s', Inv (inX S base N q scope cc f (.ref cda) A outer s0 H0 E0) pins σ H1 s' → Q s') :
    _root_.PySem.wpAt (PySem.model S.P S.w) (inX S base N q scope cc f (.ref cda) A outer s0 H0 E0).A (.func body (PySem.W.ksEnv q scope s0.heap.objs.size f (.ref cda) cc))
      (exec (.Expr (.Call (.Attribute (.Call (.Name "super" p0) [] [] p1) "__init__" p2) (e :: es) [] p3) p4) (PySem.W.ksEnv q scope s0.heap.objs.size f (.ref cda) cc))
      (fun fl s' => fl = .next ∧ Q s') (inX S base N q scope cc f (.ref cda) A outer s0 H0 E0).xe s := by
  obtain ⟨ar, hp, ear⟩ := F.hp
  obtain ⟨ccl, cdd, vs2, ccs, file, tf, hcode, hvs, hfile⟩ := F.code
  obtain ⟨cl, cld, csl, hcell⟩ := F.cell
  obtain ⟨nm, qn, Nc, bs, bm, sn, sub, ab, col, dd, k0, k1, k2, k3, k5, hC, hbm, hal⟩ := T.cls
  generalize hX : inX S base N q scope cc f (.ref cda) A outer s0 H0 E0 = X at *
  have eK : X.K = S.K := by rw [← hX]; rfl
  have eN : X.N = N := by rw [← hX]; rfl
  have eE : X.env = PySem.W.ksEnv q scope s0.heap.objs.size f (.ref cda) cc := by rw [← hX]; rfl
  have eP : X.prog = S.P := by rw [← hX]; rfl
  have eW : X.w = S.w := by rw [← hX]; rfl
  have eM : X.mg = S.mg := by rw [← hX]; rfl
  rw [← eE, ← eP, ← eW]
  have X0 : S.K.In s.heap := by rw [← eK]; exact I.kIn
  have T' : OexX X.K C := by rw [eK]; exact T
  have hcl : PySem.W.clsIn S.K C = some { name := nm, bases := bs, mro := .ref C :: bm, ns := Nc, qualname := qn, hasDict := true, slotNames := sn, subclasses := sub, abstract := ab, collection := col, hasDel := false } := by
    unfold PySem.W.clsIn
    rw [hC] <;> rfl
  have sc : X.env.scope = scope := by rw [eE]
  refine ks_wpAt_Expr_any ?_ (by unfold interactive; rw [sc, F.kd]; rfl)
  refine ks_wpAt_MethodCall ?_ (meth_eqS (X := X) (by rw [he]; show (false || _) = false; rw [Bool.false_or]; exact hpl p3) hz hl)
  refine ks_wpAt_super_base (f := f) (cc := cda) (by unfold PySem.Env.kindOf; rw [sc]; exact F.ks) (by unfold PySem.Env.kindOf; rw [sc]; exact F.kc) (by decide) (by rw [eE]) (X0 _ _ lk) rfl hp (by rw [eE]) (X0 _ _ hcode) rfl hvs (by rw [eP]; exact hfile) (by rw [eP]; exact F.top) ?_
  refine PySem.W.ks_loadName_global (by rw [sc]; exact F.kd) (by unfold PySem.Env.kindOf; rw [sc]; exact F.ks) ?_
  obtain ⟨mb, hb1, hb2⟩ := I.mod.blt
  refine Calls.loadGlobal_builtin (by rw [I.ok.glob]; exact I.mod.glob.keeps I.bk) (by rw [eM]; exact F.sup) (by rw [I.ok.blt]; exact hb1.keeps I.bk) ((hb2 "super" (by decide)).trans (PyProof.Rows.Boot.«super»)) ⟨rfl, ?_⟩
  refine PySem.wpAny_loadName_free (by rw [sc]; exact F.kd) (by unfold PySem.Env.kindOf; rw [sc]; exact F.kc) (c := cc) (by rw [eE]; rfl) ⟨_, X0 _ _ hcell, rfl⟩ ?_
  obtain ⟨m, hns, hlook⟩ := I.loc
  obtain ⟨u0, ru, lu⟩ := hlook 0 x0 (.ref a) (by rw [eN]; exact hN) h0 (.inl (by rw [sc]; exact F.k0))
  obtain rfl : u0 = Value.ref a := ru
  have hm0 : m x0 = some (.ref a) := by
    rcases lu with ⟨_, z⟩ | ⟨z, _⟩
    · exact z
    · unfold PySem.Env.kindOf at z
      rw [sc, F.k0] at z
      rcases z with z | z <;> cases z
  rw [ear]
  refine PySem.wpAny_loadName_local (by rw [sc]; exact F.kd) (by unfold PySem.Env.kindOf; rw [sc]; exact F.k0) hns hm0 ?_
  obtain ⟨t1, hoa⟩ := exo_at I.hok ea
  have hac : a ≠ C := fun z => by
    have h1 := X0 _ _ hC
    rw [← z, hoa] at h1
    cases h1
  obtain ⟨hp, g, d, t, os⟩ := s
  have Ii : PySem.W.InstAt hp a { cls := .ref C, dict := none, data := .fields #[.ref t1, .none, .none, .none, .bool false, .none] } C none := ⟨hoa, rfl, rfl, trivial⟩
  refine ks_wpAny_isType_cls (X0 _ _ hC) rfl ⟨rfl, ?_⟩
  refine ks_wpAny_call_super (X0 _ _ hC) rfl hoa rfl (fun c z => nomatch z) (PySem.W.looks_mroIn X0 (by unfold PySem.W.mroIn; rw [hcl, Option.bind_some]; simp)) fun h' hso k => ?_
  have I2 : Inv X pins σ H ⟨h', g, d, t, os⟩ := I.kept (t' := t) k
  have X2 : S.K.In h' := X0.keeps k
  have Ii2 : PySem.W.InstAt h' a { cls := .ref C, dict := none, data := .fields #[.ref t1, .none, .none, .none, .bool false, .none] } C none := ⟨k _ _ hoa, rfl, rfl, trivial⟩
  have hex : bm.contains (.type "Exception") = true := (PySem.MiX.refsX_contains "Exception" _ hbm).trans (by decide +kernel)
  have hin : PySem.W.Looks (PySem.model X.prog X.w) h' (isInstance (.ref a) (.type "Exception")) true := Ii2.type.andThen (PySem.W.looks_mroIn X2 (by
    unfold PySem.W.mroIn
    rw [hcl, Option.bind_some]
    simp only [List.isEmpty_cons, Bool.false_eq_true, if_false, List.contains_cons, hex, Bool.or_true]))
  refine ESX.getMethod_super hso (PySem.W.looks_opaque X2 F.st) ((PySem.W.looks_clsIn X2 hcl).andThen .now) (ESX.drop_own C bm) X2 hal hac (by decide) hin ?_
  have J := ClX.pin_new (t' := t + 1) (a := h'.objs.size) (o := ESX.bw a) (h' := h'.push (ESX.bw a)) I2 (fun b o q => Heap.get?_push_of_some _ q) (Nat.le_refl _) (Heap.get?_push_at rfl rfl) (fun v z => nomatch z)
  refine ESX.callWith_bound (x := a) (thn (ha.run p3 _ _ σ H _ J h) fun us s1 ⟨vs, H1, J1, rv, hlen, ea1, hq⟩ => ⟨ClX.pin_at J1, ?_⟩) he (hpl p3)
  exact xinit_ok T' (ClX.unpin J1) ea1 (ClX.pin_at J1) (by show us.length ≤ _; rw [← Paired.length rv, sizeLine_eq]; omega) fun s' J2 => ⟨rfl, hq s' J2⟩
end Mi
end
section
set_option Elab.async false
set_option linter.all false
set_option maxRecDepth 100000
set_option maxHeartbeats 1000000
/-! S44: the body of such an `__init__`: super().__init__(x, ..), then self.x = x, .. -/
namespace Mi
open PySem PySem.Spec PyProof.Rows
open L2 (V Hp HO SqL SqT RelV upd upd_same upd_ne ne_of ne_of_none Key Cx Inv PE PT PW PA PC PS PSs TS Ends TE TT TA VK Vis Takes WX XK Room thn Vals CallR Env0 frs exo exd exo_ok exd_ok exo_at exd_at relO_put within_of RelO Mut Gl)
def namesB : List Str → List Expr → Bool
  | [], [] => true
  | f :: fs, .Name z _ :: es => decide (z = f) && namesB fs es
  | _, _ => false
def fldB (x0 : Str) : List Str → List Stmt → Bool
  | [], [] => true
  | f :: fs, .Assign [.Attribute (.Name y _) g _] (.Name z _) _ :: r => (decide (y = x0) && decide (g = f)) && (decide (z = f) && fldB x0 fs r)
  | _, _ => false
def initB (x0 : Str) (ps : List Str) : List Stmt → Bool
  | .Expr (.Call (.Attribute (.Call (.Name s0 _) [] [] _) m p2) as [] p3) _ :: r => (decide (s0 = "super") && decide (m = "__init__")) && (p2.endLine == p3.line && (decide (as.length < 20) && (namesB ps as && fldB x0 ps r)))
  | _ => false
/-- a name that a context reads -/
def NmR (X : Cx) (i : Nat) (f : Str) : Prop := X.N[i]? = some f ∧ Vis X.env.scope f ∧ (f == ("__debug__" : Str)) = false ∧ (f == ("__classdict__" : Str)) = false
def tNs : Nat → Nat → TA
  | _, 0 => L2.tNil
  | i, n + 1 => L2.tCons (L2.tVar i) (tNs (i + 1) n)
theorem tNs_of : ∀ {vs : List V} {i : Nat} {σ : L2.St} {H : Hp} {Q : List V → Hp → Prop}, (∀ j y, vs[j]? = some y → σ[i + j]? = some (some y)) → Q vs H → tNs i vs.length σ H Q
  | [], _, _, _, _, _, q => q
  | v :: vs, i, σ, H, Q, h, q => ⟨v, h 0 v rfl, tNs_of (i := i + 1) (fun j y e => by
      have := h (j + 1) y e
      rw [show i + 1 + j = i + (j + 1) by omega]
      exact this) q⟩
theorem pa_names {X : Cx} : ∀ {ps : List Str} {es : List Expr} {i : Nat}, namesB ps es = true → (∀ j f, ps[j]? = some f → NmR X (i + j) f) → PA X es (tNs i ps.length)
  | [], [], _, _, _ => L2.pa_nil
  | [], _ :: _, _, h, _ => nomatch h
  | _ :: _, [], _, h, _ => nomatch h
  | f :: fs, e :: es, i, h, n => by
    cases e <;> first | (cases h; done) | skip
    rename_i z p
    obtain ⟨h1, h2⟩ := and2 (show (decide (z = f) && namesB fs es) = true from h)
    have h1 := of_decide_eq_true h1
    subst h1
    obtain ⟨a, b, c, d⟩ := n 0 z rfl
    refine L2.pa_cons (L2.pe_var a b c d) (pa_names h2 fun j g e => ?_)
    have := n (j + 1) g e
    rw [show i + 1 + j = i + (j + 1) by omega]
    exact this
theorem names_plain {X : Cx} {pos : Pos} : ∀ {ps : List Str} {es : List Expr}, namesB ps es = true → (backTo pos (starEach es X.env)).any (·.1) = false
  | [], [], _ => rfl
  | [], _ :: _, h => nomatch h
  | _ :: _, [], h => nomatch h
  | f :: fs, e :: es, h => by
    cases e <;> first | (cases h; done) | skip
    rename_i z p
    obtain ⟨_, h2⟩ := and2 (show (decide (z = f) && namesB fs es) = true from h)
    have := names_plain (X := X) (pos := pos) h2
    cases es with
    | nil => rfl
    | cons e2 es =>
      show (false || _) = false
      rw [Bool.false_or]
      exact this
theorem names_star {X : Cx} {f : Str} {fs : List Str} {e : Expr} {es : List Expr} (h : namesB (f :: fs) (e :: es) = true) : starEach (e :: es) X.env = (false, eval e X.env) :: starEach es X.env := by
  cases e <;> first | (cases h; done) | rfl
section
variable {X : Cx} {pins : List (Addr × PySem.Obj)} {a C d : Addr} {x0 : Str}
theorem flds_old (T : OexX X.K C) (n0 : NmR X 0 x0) (d : Addr) : ∀ (ps : List Str) (vs : List V) (sts : List Stmt) (i : Nat) (σ : L2.St) (H : Hp) (s : Shared) (acc : List (Str × V)) (D : Ends), fldB x0 ps sts = true → ps.length = vs.length → (∀ j f, ps[j]? = some f → NmR X (i + j) f ∧ PySem.W.findIn X.K (.ref C) f = some none) →
    (∀ j y, vs[j]? = some y → σ[i + j]? = some (some y)) → σ[0]? = some (some (.ref a)) → acc.length + ps.length ≤ 900 → Inv X pins σ H s → H a = some (exo a C (some d)) → H d = some (exd d acc) → d ≠ a →
    (∀ H' s', Inv X pins σ H' s' → H' a = some (exo a C (some d)) → H' d = some (exd d ((ps.zip vs).reverse ++ acc)) → (∀ b, b ≠ d → H' b = H b) → D.nx σ H') → wpAny (PySem.model X.prog X.w) X.A (execs sts X.env) (L2.SP X pins D) X.xe s
  | [], [], [], i, σ, H, s, acc, D, _, _, _, _, _, _, I, ea, ed, da, q => wpAny_execs_nil ⟨σ, H, I, q H s I ea ed fun _ _ => rfl⟩
  | [], [], _ :: _, _, _, _, _, _, _, h, _, _, _, _, _, _, _, _, _, _ => nomatch h
  | [], _ :: _, _, _, _, _, _, _, _, _, h, _, _, _, _, _, _, _, _, _ => nomatch h
  | _ :: _, [], _, _, _, _, _, _, _, _, h, _, _, _, _, _, _, _, _, _ => nomatch h
  | _ :: _, _ :: _, [], _, _, _, _, _, _, h, _, _, _, _, _, _, _, _, _, _ => nomatch h
  | f :: fs, v :: vs, st :: sts, i, σ, H, s, acc, D, h, hl, n, hv, h0, hz, I, ea, ed, da, q => by
    cases st <;> first | (cases h; done) | skip
    rename_i tgs e pos
    cases tgs with
    | nil => cases h
    | cons tg tgs =>
    cases tgs with
    | cons _ _ => cases tg <;> first | (cases h; done) | skip; rename_i o _ _; cases o <;> cases h
    | nil =>
    cases tg <;> first | (cases h; done) | skip
    rename_i o g p'
    cases o <;> first | (cases h; done) | skip
    rename_i y p1
    cases e <;> first | (cases h; done) | skip
    rename_i z p2
    obtain ⟨h1, h2⟩ := and2 (show ((decide (y = x0) && decide (g = f)) && (decide (z = f) && fldB x0 fs sts)) = true from h)
    obtain ⟨h3, h4⟩ := and2 h1
    obtain ⟨h5, h6⟩ := and2 h2
    have h3 := (of_decide_eq_true h3).symm
    have h4 := of_decide_eq_true h4
    have h5 := of_decide_eq_true h5
    subst h3 h4 h5
    obtain ⟨⟨a1, a2, a3, a4⟩, hno⟩ := n 0 z rfl
    obtain ⟨b1, b2, b3, b4⟩ := n0
    refine wpAny_execs_cons (plainObj_wpAny_Assign_Attribute (thn ((L2.pe_var a1 a2 a3 a4).run pins s σ H (fun w H1 => w = v ∧ H1 = H) I ⟨v, hv 0 v rfl, rfl, rfl⟩) fun u s1 ⟨w, H1, I1, r1, e1, e2⟩ => ?_))
    subst e1 e2
    refine thn ((L2.pe_var b1 b2 b3 b4).run pins s1 σ H1 (fun w H2 => w = .ref a ∧ H2 = H1) I1 ⟨.ref a, h0, rfl, rfl⟩) fun u2 s2 ⟨w2, H2, I2, r2, e1, e2⟩ => ?_
    subst e1 e2
    obtain rfl : u2 = Value.ref a := r2
    refine xset_old T I2 ea ed (by simp only [List.length_cons] at hz; omega) hno r1 fun s' J => ?_
    refine flds_old T ⟨b1, b2, b3, b4⟩ d fs vs sts (i + 1) σ _ s' ((z, w) :: acc) D h6 (by simpa using hl) (fun j f e => ?_) (fun j y e => ?_) h0 (by simp only [List.length_cons] at hz ⊢; omega) J (by rw [upd_ne (Ne.symm da)]; exact ea) upd_same da fun H' s' J' ea' ed' oth => ?_
    · have := n (j + 1) f e
      rw [show i + 1 + j = i + (j + 1) by omega]
      exact this
    · have := hv (j + 1) y e
      rw [show i + 1 + j = i + (j + 1) by omega]
      exact this
    · refine q H' s' J' ea' ?_ fun b hb => (oth b hb).trans (upd_ne hb)
      rw [ed']
      simp
theorem flds_all (T : OexX X.K C) (n0 : NmR X 0 x0) : ∀ (ps : List Str) (vs : List V) (sts : List Stmt) (i : Nat) (σ : L2.St) (H : Hp) (s : Shared) (D : Ends), ps ≠ [] → fldB x0 ps sts = true → ps.length = vs.length → (∀ j f, ps[j]? = some f → NmR X (i + j) f ∧ PySem.W.findIn X.K (.ref C) f = some none) →
    (∀ j y, vs[j]? = some y → σ[i + j]? = some (some y)) → σ[0]? = some (some (.ref a)) → ps.length ≤ 900 → Inv X pins σ H s → H a = some (exo a C none) →
    (∀ d H' s', Inv X pins σ H' s' → H d = none → d ≠ a → H' a = some (exo a C (some d)) → H' d = some (exd d (ps.zip vs).reverse) → (∀ b, b ≠ d → b ≠ a → H' b = H b) → D.nx σ H') → wpAny (PySem.model X.prog X.w) X.A (execs sts X.env) (L2.SP X pins D) X.xe s
  | [], _, _, _, _, _, _, _, h, _, _, _, _, _, _, _, _, _ => (h rfl).elim
  | _ :: _, [], _, _, _, _, _, _, _, _, h, _, _, _, _, _, _, _ => nomatch h
  | _ :: _, _ :: _, [], _, _, _, _, _, _, h, _, _, _, _, _, _, _, _ => nomatch h
  | f :: fs, v :: vs, st :: sts, i, σ, H, s, D, _, h, hl, n, hv, h0, hz, I, ea, q => by
    cases st <;> first | (cases h; done) | skip
    rename_i tgs e pos
    cases tgs with
    | nil => cases h
    | cons tg tgs =>
    cases tgs with
    | cons _ _ => cases tg <;> first | (cases h; done) | skip; rename_i o _ _; cases o <;> cases h
    | nil =>
    cases tg <;> first | (cases h; done) | skip
    rename_i o g p'
    cases o <;> first | (cases h; done) | skip
    rename_i y p1
    cases e <;> first | (cases h; done) | skip
    rename_i z p2
    obtain ⟨h1, h2⟩ := and2 (show ((decide (y = x0) && decide (g = f)) && (decide (z = f) && fldB x0 fs sts)) = true from h)
    obtain ⟨h3, h4⟩ := and2 h1
    obtain ⟨h5, h6⟩ := and2 h2
    have h3 := (of_decide_eq_true h3).symm
    have h4 := of_decide_eq_true h4
    have h5 := of_decide_eq_true h5
    subst h3 h4 h5
    obtain ⟨⟨a1, a2, a3, a4⟩, hno⟩ := n 0 z rfl
    obtain ⟨b1, b2, b3, b4⟩ := n0
    refine wpAny_execs_cons (plainObj_wpAny_Assign_Attribute (thn ((L2.pe_var a1 a2 a3 a4).run pins s σ H (fun w H1 => w = v ∧ H1 = H) I ⟨v, hv 0 v rfl, rfl, rfl⟩) fun u s1 ⟨w, H1, I1, r1, e1, e2⟩ => ?_))
    subst e1 e2
    refine thn ((L2.pe_var b1 b2 b3 b4).run pins s1 σ H1 (fun w H2 => w = .ref a ∧ H2 = H1) I1 ⟨.ref a, h0, rfl, rfl⟩) fun u2 s2 ⟨w2, H2, I2, r2, e1, e2⟩ => ?_
    subst e1 e2
    obtain rfl : u2 = Value.ref a := r2
    refine xset_new T I2 ea hno r1 fun d s' hd da J => ?_
    refine flds_old T ⟨b1, b2, b3, b4⟩ d fs vs sts (i + 1) σ _ s' [(z, w)] D h6 (by simpa using hl) (fun j f e => ?_) (fun j y e => ?_) h0 (by simp only [List.length_cons, List.length_nil] at hz ⊢; omega) J upd_same (by rw [upd_ne da]; exact upd_same) da fun H' s' J' ea' ed' oth => ?_
    · have := n (j + 1) f e
      rw [show i + 1 + j = i + (j + 1) by omega]
      exact this
    · have := hv (j + 1) y e
      rw [show i + 1 + j = i + (j + 1) by omega]
      exact this
    · refine q d H' s' J' hd da ea' ?_ fun b hb hba => (oth b hb).trans ?_
      · rw [ed']
        simp
      · rw [upd_ne hba, upd_ne hb]
end
end Mi
end
section
set_option Elab.async false
set_option linter.all false
set_option maxRecDepth 100000
set_option maxHeartbeats 1000000
/-! S45: an own error is raised. -/
namespace Mi
open PySem PySem.Spec PyProof.Rows
open L2 (V Hp HO SqL SqT RelV upd upd_same upd_ne ne_of ne_of_none Key Cx Inv PE PT PW PA PC PS PSs TS Ends TE TT TA VK Vis Takes WX XK Room thn Vals CallR Env0 frs exo exd exo_ok exd_ok exo_at exd_at relO_put within_of RelO Mut Gl PMk)
/-- the `__init__` of the error class at C: its fields ps -/
structure IniF (S : Link) (C fI : Addr) (ps : List Str) : Prop where
  ex : ∃ (name qual : Str) (params : Arguments) (body : List Stmt) (scope : Scope) (kV doc pm ct oc : Value) (an od : Option Addr) (osl : Array (Option Value)) (cc cda : Addr) (x0 : Str),
    S.K.lookup fI = some ⟨oc, od, .func (PySem.W.ksFn name qual params body scope .none kV doc pm an (.ref cda) ct cc), osl⟩ ∧ PySem.W.codeIn S.K (.ref cda) qual = true ∧ InS (x0 :: ps) (x0 :: ps) scope ∧ SupF S fI cc cda C params scope x0 ∧
    initB x0 ps body = true ∧ params.args.map (·.arg) = x0 :: ps ∧ plainP params = true ∧ (∀ f ∈ x0 :: ps, (f == ("__debug__" : Str)) = false ∧ (f == ("__classdict__" : Str)) = false)
  ne : ps ≠ []
  few : ps.length ≤ 10
  fld : ∀ f ∈ ps, PySem.W.findIn S.K (.ref C) f = some none
  T : OexX S.K C
  iC : PySem.W.findIn S.K (.ref C) "__init__" = some (some (.ref fI))
  tI : PySem.W.typeIn S.K (.ref fI) = some (.type "function")
theorem init_run {S : Link} {base : Heap} {C fI a : Addr} {ps : List Str} (F : IniF S C fI ps) {A : Around} {outer : List PySem.Env} {s : Shared} {H : Hp} {us : List Value} {ys : List V} {Q : L2.VK} {E : XK} {k : Nat} (hr : Room k A) (e0 : Env0 S.P S.w S.K S.mg base A outer s H)
    (r : Vals ys us) (hl : ys.length = ps.length) (ea : H a = some (exo a C none))
    (q : ∀ d H', H d = none → d ≠ a → H' a = some (exo a C (some d)) → H' d = some (exd d (ps.zip ys).reverse) → (∀ b, b ≠ d → b ≠ a → H' b = H b) → Q .non H') :
    codeAny (PySem.model S.P S.w) A (.call (.ref fI) ⟨.ref a :: us, []⟩) (L2.CR (L2.CX S.P S.w) outer S.P S.w H s Q E) s := by
  obtain ⟨name, qual, params, body, scope, kV, doc, pm, ct, oc, an, od, osl, cc, cda, x0, lk, hcd, Z, SF, hb, hpa, hpl, hnm⟩ := F.ex
  obtain ⟨cl, cld, csl, hcell⟩ := SF.cell
  have hus : us.length = ys.length := r.length.symm
  have hbind : BindsTo s (PySem.W.ksFn name qual params body scope .none kV doc pm an (.ref cda) ct cc) ⟨.ref a :: us, []⟩ ((x0 :: ps).zip (.ref a :: us)) := by
    have hpl2 : params.args.length = ps.length + 1 := by
      have := congrArg List.length hpa
      rw [List.length_map] at this
      exact this
    obtain ⟨kk, e1, e2⟩ := bind_pos (fd := PySem.W.ksFn name qual params body scope .none kV doc pm an (.ref cda) ct cc) (us := .ref a :: us) (ds := []) hpl (by show us.length + 1 ≤ params.args.length; omega) (Nat.zero_le _) (by show params.args.length ≤ us.length + 1 + 0; omega)
    refine L2.BindsTo.of_looks fun M => ?_
    rw [e1]
    refine PySem.W.Looks.of_pure (show (seqItems? .none >>= kk) = _ from (e2 none rfl).trans ?_)
    show pure ((params.args.map (·.arg)).zip _) = _
    rw [hpa]
    simp
  refine run_init lk hcd hcell Z hr e0 hbind (vs := .ref a :: ys) (.cons rfl r) (by simp [hl]) fun s1 I => ?_
  have hst : L2.start (x0 :: ps) (.ref a :: ys) = (.ref a :: ys).map some := by
    unfold L2.start
    rw [show (x0 :: ps).length - (V.ref a :: ys).length = 0 by simp [hl]]
    exact List.append_nil _
  have nmr : ∀ j f, (x0 :: ps)[j]? = some f → NmR (inX S base (x0 :: ps) qual scope cc fI (.ref cda) A outer s H E) j f := fun j f e => by
    have hm := List.mem_of_getElem? e
    exact ⟨e, .inl (Z.par f hm), (hnm f hm).1, (hnm f hm).2⟩
  cases body with
  | nil => cases hb
  | cons st sts =>
    cases st <;> first | (cases hb; done) | skip
    rename_i ex p4
    cases ex <;> first | (cases hb; done) | skip
    rename_i fn as kws p3
    cases fn <;> first | (cases hb; done) | skip
    rename_i so m p2
    cases so <;> first | (cases hb; done) | skip
    rename_i sn a0 k0 p1
    cases sn <;> first | (cases hb; done) | skip
    rename_i s0 p0
    cases a0 <;> first | (cases hb; done) | skip
    cases k0 <;> first | (cases hb; done) | skip
    cases kws <;> first | (cases hb; done) | skip
    obtain ⟨h1, hb⟩ := and2 (show ((decide (s0 = "super") && decide (m = "__init__")) && (p2.endLine == p3.line && (decide (as.length < 20) && (namesB ps as && fldB x0 ps sts)))) = true from hb)
    obtain ⟨h1, h2⟩ := and2 h1
    obtain ⟨h3, hb⟩ := and2 hb
    obtain ⟨h4, hb⟩ := and2 hb
    obtain ⟨h5, h6⟩ := and2 hb
    have h1 := of_decide_eq_true h1
    have h2 := of_decide_eq_true h2
    have h4 := of_decide_eq_true h4
    subst h1 h2
    cases ps with
    | nil => exact (F.ne rfl).elim
    | cons p ps =>
    cases as with
    | nil => cases h5
    | cons e es =>
    have PAn := pa_names (X := inX S base (x0 :: p :: ps) qual scope cc fI (.ref cda) A outer s H E) (i := 1) h5 fun j f e => by
      rw [Nat.add_comm]
      exact nmr (j + 1) f (by simpa using e)
    have hslot : ∀ j y, ys[j]? = some y → (L2.start (x0 :: p :: ps) (.ref a :: ys))[1 + j]? = some (some y) := fun j y e => by
      rw [hst, Nat.add_comm, List.getElem?_map, List.getElem?_cons_succ, e]
      rfl
    have h00 : (L2.start (x0 :: p :: ps) (.ref a :: ys))[0]? = some (some (.ref a)) := by
      rw [hst]
      rfl
    refine ks_wpAt_execs_cons (_root_.PySem.wpAt_mono (sup_at (Q := Inv (inX S base (x0 :: p :: ps) qual scope cc fI (.ref cda) A outer s H E) [] (L2.start (x0 :: p :: ps) (.ref a :: ys)) H) lk SF F.T I rfl h00 ea h4 h3 (names_star h5)
      (fun pos => ?_) PAn ?_) (fun fl s' ⟨e1, J⟩ => ?_) fun _ _ z => z)
    · cases es with
      | nil => rfl
      | cons e2 es2 =>
        have := names_plain (X := inX S base (x0 :: p :: ps) qual scope cc fI (.ref cda) A outer s H E) (pos := pos) h5
        rw [names_star h5] at this
        exact (Bool.or_eq_false_iff.mp (show (false || _) = false from this)).2
    · rw [← hl]
      exact tNs_of hslot ⟨by have := F.few; omega, ea, fun s' J => J⟩
    · subst e1
      refine _root_.PySem.wpAt_of_wpAny ?_
      have T' : OexX (inX S base (x0 :: p :: ps) qual scope cc fI (.ref cda) A outer s H E).K C := F.T
      exact flds_all T' (nmr 0 x0 rfl) (p :: ps) ys sts 1 _ H s' _ (by simp) h6 hl.symm (fun j f e => ⟨by rw [Nat.add_comm]; exact nmr (j + 1) f (by simpa using e), F.fld f (List.mem_of_getElem? e)⟩) hslot h00 (by have := F.few; omega) J ea
        fun d H' s2 J2 n1 n2 e1 e2 oth => q d H' n1 n2 e1 e2 oth
end Mi
end
section
set_option Elab.async false
set_option linter.all false
set_option maxRecDepth 100000
set_option maxHeartbeats 1000000
/-! S46: raise of an own error is sound. -/
namespace Mi
open PySem PySem.Spec PyProof.Rows
open L2 (V Hp HO SqL SqT RelV upd upd_same upd_ne ne_of ne_of_none Key Cx Inv PE PT PW PA PC PS PSs TS Ends TE TT TA VK Vis Takes WX XK Room thn Vals CallR Env0 frs exo exd exo_ok exd_ok exo_at exd_at relO_put within_of RelO Mut Gl PMk MkP del del_ne del_same)
/-- what is known of the error classes that are raised -/
structure RseF (S : Link) : Prop where
  ini : ∀ c ns, S.Pr.env.excFs c = some ns → ns ≠ [] → ∃ s C fI ps, S.T.names[c]? = some s ∧ S.mg s = some (.ref C) ∧ IniF S C fI ps ∧ ns.length = ps.length ∧ ∀ (i : Nat) (n : Nm), ns[i]? = some n → S.T.names[n]? = ps[i]?
def tMkX (C : Addr) (ps : List Str) (ta : TA) : L2.St → Hp → XK → Prop := fun σ H Q => ta σ H fun vs H1 => vs.length = ps.length ∧ ∀ d, H1 d = none → Q (.ref C) (some d) (upd H1 d (.xd (ps.zip vs).reverse))
section
variable {S : Link} {X : Cx} {e : Expr} {es : List Expr} {ta : TA} {C fI : Addr} {ps : List Str} {x : Str} {p pos : Pos} {k : Nat}
theorem pmk_ex (eP : X.prog = S.P) (eW : X.w = S.w) (eK : X.K = S.K) (eM : X.mg = S.mg) (F : IniF S C fI ps) (hr : Room (k + 1) X.A) {W : WX} (tk : Takes X W) (hg : Gl X x) (hm : X.mg x = some (.ref C)) (ha : PA X (e :: es) ta)
    (hdb : (x == ("__debug__" : Str)) = false) (he : starEach (e :: es) X.env = (false, eval e X.env) :: starEach es X.env) (hpl : (backTo pos (starEach es X.env)).any (·.1) = false) : PMk X (.Call (.Name x p) (e :: es) [] pos) (tMkX C ps ta) := by
  intro pins s σ H Q I h
  obtain ⟨nm, qn, Nc, bs, bm, sn, sub, ab, col, dd, k0, k1, k2, k3, k5, hC, hbm, hal⟩ := F.T.cls
  refine wpAny_Call_Name_kw (L2.ld_glob I hg hm ?_ hdb)
  refine PySem.W.callWith_K (h₀ := X.base) I.ok.mod.kin (by rw [eK]; exact F.T.kC) (thn (ha.run pos pins s σ H _ I h) fun us s1 ⟨vs, H1, I1, r1, hlen, q1⟩ => ⟨I1.kIn, ?_⟩) he hpl
  show wpAny _ _ (call (.ref C) us) _ _ _
  obtain ⟨hp, g, dr, tt, os⟩ := s1
  have hlu : vs.length = us.length := r1.length
  have hn : H1 (hp.objs.size + 1) = none := I1.hok.fresh (Nat.le_succ _)
  have X1 : S.K.In hp := by rw [← eK]; exact I1.kIn
  have kk : ∀ b o, hp.get? b = some o → ((hp.push (PySem.W.kdv_tup us)).push (PySem.HandSPX.excO C hp.objs.size)).get? b = some o := fun b o z => Heap.get?_push_of_some _ (Heap.get?_push_of_some _ z)
  have hget : ((hp.push (PySem.W.kdv_tup us)).push (PySem.HandSPX.excO C hp.objs.size)).get? (hp.objs.size + 1) = some (PySem.HandSPX.excO C hp.objs.size) := by heap_get
  have I2 := I1.laid (t' := tt) (a := hp.objs.size + 1) (o := exo (hp.objs.size + 1) C none) (h' := (hp.push (PySem.W.kdv_tup us)).push (PySem.HandSPX.excO C hp.objs.size)) kk (Nat.le_succ _) (exo_ok hget)
  have E2 := I2.env0.make C us []
  rw [eP, eW, eK, eM] at E2
  have few := F.few
  have fin := init_run F (Q := fun v H' => v = .non ∧ ∃ d, H1 d = none ∧ d ≠ hp.objs.size + 1 ∧ H' (hp.objs.size + 1) = some (exo (hp.objs.size + 1) C (some d)) ∧ H' d = some (exd d (ps.zip vs).reverse) ∧ ∀ b, b ≠ d → b ≠ hp.objs.size + 1 → H' b = H1 b) (E := fun _ _ _ => False) (hr.make C us []) E2 r1 hlen upd_same
    fun d H' n1 n2 e1 e2 oth => ⟨rfl, d, (upd_ne n2).symm.trans n1, n2, e1, e2, fun b hb hba => (oth b hb hba).trans (upd_ne hba)⟩
  rw [← eP, ← eW] at fin
  refine wpAny_call (PySem.HandSPX.call_own _root_.PySem.F.excBase_Exception (fun Y => PySem.MiX.refsX_contains Y bm hbm) (X1 _ _ hC) (PySem.W.looks_findIn X1 F.iC) (fun self => PySem.W.bind_fn X1 self F.tI) (by rw [← hlu, sizeLine_eq]; omega) (codeAny_mono fin fun r s' hq' => ?_))
  cases r with
  | error er => exact tk er s' (L2.XE.of_call I2 (E := fun _ _ _ => False) (fun cls d H' z => False.elim z) hq')
  | ok fl =>
    cases fl with
    | ret u =>
      obtain ⟨v, H2, os2, bare2, un2, hok2, rv, ev, d, n1, n2, ea, ed, oth⟩ := hq'
      subst ev
      obtain ⟨h2, g2, d2, t2, os'⟩ := s'
      refine ⟨rv, L2.mk_end (L2.raises_own (by rw [eK]; exact F.T.exC) (by rw [eK]; exact F.T.tyC)) I1 (Nat.le_succ _) kk un2 hok2 os2 bare2 ea ed n1 ?_⟩
      have : upd (del H2 (hp.objs.size + 1)) d (.xd (ps.zip vs).reverse) = upd H1 d (.xd (ps.zip vs).reverse) := by
        funext b
        by_cases hb : b = d
        · rw [hb, upd_same, upd_same]
        · rw [upd_ne hb, upd_ne hb]
          by_cases hba : b = hp.objs.size + 1
          · rw [hba, del_same, hn]
          · rw [del_ne hba]
            exact oth b hb hba
      rw [this]
      exact q1 d n1
    | next => exact False.elim hq'
    | brk => exact False.elim hq'
    | cont => exact False.elim hq'
theorem rfs_zip {φ : List Addr} {H : Hp} : ∀ {ns : List Nm} {ps : List Str} {vs : List Val} {ys : List V} {acc : List (Nm × Val)} {bcc : List (Str × V)}, ns.length = ps.length → ns.length = vs.length → (∀ (i : Nat) (n : Nm), ns[i]? = some n → S.T.names[n]? = ps[i]?) → RDs S φ H vs ys → RFs S φ H acc bcc →
    RFs S φ H ((ns.zip vs).reverse ++ acc) ((ps.zip ys).reverse ++ bcc)
  | [], [], _, _, _, _, _, _, _, _, r => by simpa using r
  | [], _ :: _, _, _, _, _, h, _, _, _, _ => nomatch h
  | _ :: _, [], _, _, _, _, h, _, _, _, _ => nomatch h
  | _ :: _, _ :: _, [], _, _, _, _, h, _, _, _ => nomatch h
  | n :: ns, p :: ps, v :: vs, ys, acc, bcc, h1, h2, h3, h4, r => by
    cases h4 with
    | cons q qs =>
      rename_i y ys
      have := rfs_zip (acc := (n, v) :: acc) (bcc := (p, y) :: bcc) (ns := ns) (ps := ps) (by simpa using h1) (by simpa using h2) (fun i m e => by have := h3 (i + 1) m (by simpa using e); simpa using this) qs (.cons (by have := h3 0 n rfl; simpa using this) q r)
      simpa using this
end
theorem rse_ok {S : Link} {k : Nat} (R : RseF S) {X : Cx} {W : WX} {L : Bool} {c : Nm} {as : List Ex} {x : Str} {xs : List Expr} {p1 p2 pos : Pos} (D : DX S k X W L) (hg : gloOk S.T X.env.scope c x = true) (ha : PEs S k X W as xs) :
    PS X (.Raise (some (.Call (.Name x p1) xs [] p2)) none pos) (tSt S k X W (.rse c as)) := by
  obtain ⟨g1, g2, g3⟩ := gloOk_of hg
  have hA := pa_ex D.G ha
  cases hf : S.Pr.env.excFs c with
  | none =>
    refine ⟨fun pins s σV H Dd I ⟨φ, σ, M, Re, sr, h⟩ => ?_⟩
    rw [Mi.xs, hf] at h
    exact h.elim
  | some ns =>
    cases ns with
    | nil =>
      refine ⟨fun pins s σV H Dd I ⟨φ, σ, M, Re, sr, h⟩ => ?_⟩
      rw [Mi.xs, hf] at h
      exact h.elim
    | cons n ns =>
      obtain ⟨s, C, fI, ps, e1, e2, IF, e3, e4⟩ := R.ini c _ hf (by simp)
      rw [g1] at e1
      cases e1
      cases ha with
      | nil =>
        refine ⟨fun pins s σV H Dd I ⟨φ, σ, M, Re, sr, h⟩ => ?_⟩
        rw [Mi.xs, hf] at h
        have h : TF S X W φ H ((evs S.Pr.env (run S.Pr k) [] σ M).fl σ fun vs M => nodata' vs (match decide ((n :: ns).length = vs.length) with | true => .exc ⟨c, ((n :: ns).zip vs).reverse⟩ σ M | false => .err)) Dd := h
        rw [evs] at h
        exact h.elim
      | @cons A As a as' q1 q2 q3 q4 =>
        have hpl : (backTo p2 (starEach as' X.env)).any (·.1) = false := pes_plain q4
        refine PS_imp (L2.ps_raise D.G.calm D.tk (pmk_ex (k := 2 * k) D.G.prog D.G.w D.G.K D.G.mg IF D.G.room D.tk g2 (by rw [D.G.mg]; exact e2) hA g3 q3 hpl)) fun Dd σV H ⟨φ, σ, M, Re, sr, h⟩ => ?_
        rw [Mi.xs, hf] at h
        have h : TF S X W φ H ((evs S.Pr.env (run S.Pr k) (A :: As) σ M).fl σ fun vs M => nodata' vs (match decide ((n :: ns).length = vs.length) with | true => .exc ⟨c, ((n :: ns).zip vs).reverse⟩ σ M | false => .err)) Dd := h
        refine ⟨φ, σ, M, Re, sr, (TF.fl (RV := fun φ H vs xs => RSs S X.base X.pn φ H vs xs) sr h).mono fun ys H1 ⟨φ1, vs, M1, R1, K1, sr1, r1, h1⟩ => ?_⟩
        unfold nodata' at h1
        cases hd : allD vs with
        | false => rw [hd] at h1; exact h1.elim
        | true =>
          rw [hd] at h1
          by_cases hl : (n :: ns).length = vs.length
          · rw [decide_eq_true hl] at h1
            have rd := RSs.data r1 hd
            refine ⟨by rw [← rd.length, ← hl, e3], fun d hdn => ?_⟩
            exact h1 φ1 _ σV C x d _ (R1.new hdn) (keep_new hdn) (sr1.mono (keep_new hdn)) g1 e2 upd_same (by
              have := rfs_zip (H := upd H1 d (.xd (ps.zip ys).reverse)) (acc := []) (bcc := []) e3 hl e4 (rd.mono (keep_new hdn)) .nil
              simpa using this)
          · rw [decide_eq_false hl] at h1
            exact h1.elim
end Mi
end
section
set_option Elab.async false
set_option linter.all false
set_option maxRecDepth 100000
set_option maxHeartbeats 1000000
/-! S50: a program by lists; the head's check. -/
namespace Mi
open PySem PySem.Spec PyProof.Rows
open L2 (V Hp HO SqL SqT RelV upd upd_same upd_ne ne_of ne_of_none Key Cx Inv Vals FnScope)
namespace PL
def T (p : PL) : Tb where
  names := p.names
  free := p.free
  pars x := match p.fnd x with
    | some z => z.N.take z.d.np
    | none => []
  fnOk x := (p.fnd x).isSome
  mkOk c := p.cls.contains c && (p.mtd c p.init).isSome
end PL
/-! ### Bools -/
def scV : Val → Bool
  | .non => true
  | .bl _ => true
  | .int _ => true
  | .str _ => true
  | _ => false
def toDv : Val → He.Dv
  | .non => .non
  | .bl b => .bl b
  | .int i => .int i
  | .str s => .str s
  | _ => .non
def nmB (p : PL) (c : Nm) (f : Str → Bool) : Bool := match p.names[c]? with
  | some s => f s
  | none => false
theorem nmB_ok {p : PL} {c : Nm} {f : Str → Bool} (h : nmB p c f = true) : ∃ s, p.names[c]? = some s ∧ f s = true := by
  unfold nmB at h
  split at h
  · rename_i s e; exact ⟨s, e, h⟩
  · cases h
theorem nmB_of {p : PL} {c : Nm} {f : Str → Bool} {s : Str} (h : nmB p c f = true) (e : p.names[c]? = some s) : f s = true := by
  obtain ⟨t, e2, h⟩ := nmB_ok h
  rw [e] at e2
  cases e2
  exact h
def conB (K : PySem.W.Frag) (s : Str) : Val → Bool
  | .int i => (He.Fa.int s i).ok K
  | .str z => (He.Fa.str s z).ok K
  | .tup vs => vs.all scV && ((He.Fa.glo s).ok K && He.tupB K s (vs.map toDv))
  | _ => false
def scB (N P : List Str) (sc : Scope) : Bool :=
  decide (sc.kind = .function) && (!sc.isCoroutine && (!sc.isGenerator && (decide N.Nodup && (decide (N.take P.length = P) && (P.all (fun x => locK (sc.names.lookup x)) && sc.names.all fun y => match y.2 with | .free => false | _ => true)))))
theorem scB_ok {N P : List Str} {sc : Scope} (h : scB N P sc = true) : FnScope N P sc := by
  unfold scB at h
  simp only [Bool.and_eq_true, decide_eq_true_eq, Bool.not_eq_true', List.all_eq_true] at h
  obtain ⟨h1, h2, h3, h4, h5, h6, h7⟩ := h
  refine ⟨h1, h2, h3, h4, h5, fun x hx => ?_, fun y hy z => ?_⟩
  · have := h6 x hx
    unfold locK at this
    split at this
    · rename_i e; exact .inl e
    · rename_i e; exact .inr e
    · cases this
  · have := h7 y hy
    rw [z] at this
    cases this
/-- lambda makers: the code object, its table, the prefix of its lambdas' names -/
def codsOf (p : PL) (K : PySem.W.Frag) : List (Addr × Addr × Str) := (p.fns.filter (·.L)).map fun z =>
  (match p.names[z.nm]? with
  | some s => (He.codeOf K (s, none), He.tabOf K (He.codeOf K (s, none)), s ++ ".<locals>.")
  | none => (0, 0, ""))
def tabsOf (p : PL) (K : PySem.W.Frag) : List (Addr × Str) := (codsOf p K).map fun c => (c.2.1, c.2.2 ++ "<lambda>")
def isRef : Value → Bool
  | .ref _ => true
  | _ => false
/-- the def at f -/
def defB (p : PL) (K : PySem.W.Frag) (f : Addr) (z : FD) : Bool := match K.lookup f with
  | some ⟨_, _, .func ⟨_, qual, params, .stmts body, sc, gl, [], dV, _, _, _, _, cdv, _, bi⟩, _⟩ =>
    (decide (gl = mainGlobals) && (decide (bi = builtinsNs) && (PySem.W.codeIn K cdv qual && (z.d.dfl.all scV && (He.dflB K dV (z.d.dfl.map fun v => (toDv v).v K) && scB z.N (params.args.map (·.arg)) sc))))) &&
    (chkSs p.T z.L z.N sc z.d.body body && (PySem.W.keepIn K (.ref f) && (plainP params && (decide (params.args.length = z.d.np) && (decide (z.d.dfl.length ≤ z.d.np) && (decide (z.N.length = z.d.n) &&
      (!z.L || nmB p z.nm fun s => decide (qual = s) && (decide (f = He.ga K s) && isRef cdv))))))))
  | _ => false
def iniB (P : PySem.Program) (K : PySem.W.Frag) (C : Addr) (ps : List Str) : Bool := match K.lookup (He.ma K C "__init__") with
  | some ⟨_, _, .func ⟨_, qual, params, .stmts body, sc, gl, [(cn, cc)], .none, _, _, _, _, .ref cda, _, bi⟩, _⟩ =>
    (match K.lookup cc with
      | some ⟨_, _, .cell (some (.ref D)), _⟩ => decide (D = C)
      | _ => false) && ((match K.lookup cda with
      | some ⟨_, _, .fields vs, _⟩ => (match (vs[2]? : Option Value) with
        | some (.str file _) => P.main.file == file
        | _ => false)
      | _ => false) && ((match K.lookup C with
      | some ⟨.type "type", _, .cls cd, sl⟩ => (match cd.mro, sl.toList with
        | .ref C' :: bm, [_, _, _, _, some (.builtin n), _] => decide (C' = C) && (decide (n = "Exception.__new__") && (!cd.hasDel && (cd.hasDict && (MiX.refsX bm && decide (PySem.W.alongIn K "__init__" bm = some (some (.builtin "Exception.__init__")))))))
        | _, _ => false)
      | _ => false) && (match params.args with
      | [] => false
      | a0 :: as => decide (as.map (·.arg) = ps) && (initB a0.arg ps body && (plainP params && (decide (gl = mainGlobals) && (decide (bi = builtinsNs) && (decide (cn = "__class__") && (PySem.W.codeIn K (.ref cda) qual &&
        (decide (sc.kind = .function) && (!sc.isCoroutine && (!sc.isGenerator && (decide (a0.arg :: ps).Nodup && ((a0.arg :: ps).all (fun x => decide (sc.names.lookup x = some .local) && (nmOk x && !(x == "__class__"))) && (sc.names.all (fun y => match y.2 with | .cell => false | .free => y.1 == "__class__" | _ => true) &&
        (decide (sc.names.lookup ("super" : Str) = some .globalImplicit) && (decide (sc.names.lookup ("__class__" : Str) = some .free) && (decide (params.posonlyargs.length = 0) && (!ps.isEmpty && (decide (ps.length ≤ 10) && (ps.all (fun f => decide (PySem.W.findIn K (.ref C) f = some none)) &&
        (decide (PySem.W.findIn K (.ref C) "__setattr__" = some (some (.builtin "object.__setattr__"))) && (decide (PySem.W.subIn K (.ref C) (.type "BaseException") = some true) && (decide (PySem.W.typeIn K (.ref C) = some (.type "type")) && (PySem.W.keepIn K (.ref C) &&
        (decide (PySem.W.findIn K (.ref C) "__init__" = some (some (.ref (He.ma K C "__init__")))) && decide (PySem.W.typeIn K (.ref (He.ma K C "__init__")) = some (.type "function"))))))))))))))))))))))))))))
  | _ => false
def kitB (p : PL) (K : PySem.W.Frag) (c : Nm) (s : Str) : Bool :=
  (["NoneType", "bool", "int", "str", "list", "tuple"] : List String).all (fun n => decide (PySem.W.kitOne K (.type n) (.ref (He.ga K s)) = some false) && decide (PySem.W.kitOne K (.ref (He.ga K s)) (.type n) = some false)) &&
  (decide (PySem.W.findIn K (.ref (He.ga K s)) "__class__" = some (some (.builtin "object.__class__"))) && (decide (PySem.W.specialIn K (.builtin "object.__class__") "__get__" = some (some (.builtin "getset_descriptor.__get__"))) && (decide (PySem.W.takesIn K (.builtin "object.__class__") = some true) && (decide (PySem.W.mroIn K (He.ga K s) (.type "object") = some true) &&
  p.cls.all fun d => nmB p d fun t => decide (PySem.W.kitOne K (.ref (He.ga K s)) (.ref (He.ga K t)) = some (decide (c = d)))))))
def glB (p : PL) (P : PySem.Program) (K : PySem.W.Frag) : Bool :=
  decide p.names.Nodup && (p.free.all (fun x => (He.Fa.free x).ok K) && (decide (p.names[p.init]? = some ("__init__" : Str)) && (p.cons.all (fun q => nmB p q.1 fun s => conB K s q.2) && (p.fns.all (fun z => nmB p z.nm fun s => (He.Fa.glo s).ok K && (defB p K (He.ga K s) z && decide (z.N.take z.d.np = match K.lookup (He.ga K s) with
    | some ⟨_, _, .func fd, _⟩ => fd.params.args.map (·.arg)
    | _ => []))) &&
  ((codsOf p K).all (fun a => (codsOf p K).all fun b => a.2.1 != b.2.1 || decide (a.2.2 = b.2.2)))))))
def clB (p : PL) (K : PySem.W.Frag) : Bool :=
  p.cls.all (fun c => nmB p c fun s => (He.Fa.glo s).ok K && ((He.Fa.cls s).ok K && (p.flds.all (fun f => nmB p f fun t => (He.Fa.noat s t).ok K) && ((!(p.mtd c p.init).isSome || (He.Fa.mkr s).ok K) && kitB p K c s)))) &&
  p.mts.all (fun q => !q.2.L && (p.cls.contains q.1 && nmB p q.1 fun s => nmB p q.2.nm fun m => (He.Fa.meth s m).ok K && defB p K (He.ma K (He.ga K s) m) q.2))
def exB (p : PL) (P : PySem.Program) (K : PySem.W.Frag) : Bool :=
  (He.Fa.free "super").ok K && (decide ((P.main.scope.names.lookup ("super" : Str)).isSome = false) && (decide (PySem.W.nsIn K cStatics "thirdparty.any" = some none) && (p.excs.all (fun q => nmB p q.1 fun s => (He.Fa.glo s).ok K && (L2.xfB K (He.ga K s) && (p.flds.all (fun f => nmB p f fun t => (He.Fa.noat s t).ok K) &&
    (q.2.1.isEmpty || (q.2.1.all (fun n => (p.names[n]?).isSome) && iniB P K (He.ga K s) (q.2.1.filterMap fun n => p.names[n]?)))))) &&
  p.excs.all (fun a => p.excs.all fun b => nmB p a.1 fun s => nmB p b.1 fun t => decide (PySem.W.exmOne K (.ref (He.ga K s)) (.ref (He.ga K t)) = some (a.2.2.contains b.1))))))
def headB (p : PL) (P : PySem.Program) (K : PySem.W.Frag) : Bool := glB p P K && (clB p K && exB p P K)
/-- the link of a program by lists -/
def lk (p : PL) (P : PySem.Program) (w : World) (K : PySem.W.Frag) (mg : Str → Option Value) : Link := { P := P, w := w, K := K, mg := mg, T := p.T, Pr := p.prog, tabs := tabsOf p K, cods := codsOf p K }
end Mi
end
section
set_option Elab.async false
set_option linter.all false
set_option maxRecDepth 100000
set_option maxHeartbeats 1000000
/-! S51: what the head's check gives. -/
namespace Mi
open PySem PySem.Spec PyProof.Rows
open L2 (V Hp HO SqL SqT RelV upd upd_same upd_ne ne_of ne_of_none Key Cx Inv Vals FnScope)
section
variable {p : PL} {P : PySem.Program} {w : World} {K : PySem.W.Frag} {mg : Str → Option Value} {h : Heap}
theorem lookup_memA {α β : Type} [BEq α] [LawfulBEq α] {k : α} {v : β} : ∀ {l : List (α × β)}, l.lookup k = some v → (k, v) ∈ l
  | [], e => by cases e
  | (a, b) :: r, e => by
    by_cases hk : k = a
    · subst hk
      simp at e
      subst e
      exact List.mem_cons_self
    · have : (k == a) = false := beq_eq_false_iff_ne.mpr hk
      rw [List.lookup_cons, this] at e
      exact List.mem_cons_of_mem _ (lookup_memA e)
theorem fnd_mem {x : Nm} {z : FD} (e : p.fnd x = some z) : z ∈ p.fns ∧ z.nm = x := by
  unfold PL.fnd at e
  exact ⟨List.mem_of_find?_eq_some e, by have := List.find?_some e; simpa using this⟩
theorem mtd_mem {c m : Nm} {z : Nm × FD} (e : p.mtd c m = some z) : z ∈ p.mts ∧ z.1 = c ∧ z.2.nm = m := by
  unfold PL.mtd at e
  exact ⟨List.mem_of_find?_eq_some e, by have := List.find?_some e; simpa using this⟩
theorem dv_rds {S : Link} : ∀ {vs : List Val}, vs.all scV = true → ∀ φ H, RDs S φ H vs (vs.map fun v => (toDv v).v S.K)
  | [], _, φ, H => .nil
  | v :: vs, hh, φ, H => by
    obtain ⟨h1, h2⟩ := and2 (show (scV v && vs.all scV) = true from hh)
    refine .cons ?_ (dv_rds h2 φ H)
    cases v <;> first | (cases h1; done) | skip
    · exact .non
    · exact .bl _
    · exact .int _
    · exact .str _
theorem con_ok (X : K.In h) (G : h.Ns mainGlobals mg) {s : Str} {v : Val} (c : conB K s v = true) : ∃ u y, mg s = some u ∧ RelV y u ∧ ∀ φ H, RD (lk p P w K mg) φ H v y := by
  cases v <;> first | (cases c; done) | skip
  · rename_i i
    obtain ⟨t, e⟩ := He.int_ok X G (x := s) (i := i) c
    exact ⟨_, .int i, e, ⟨t, rfl⟩, fun _ _ => .int i⟩
  · rename_i z
    obtain ⟨t, e⟩ := He.str_ok X G (x := s) (z := z) c
    exact ⟨_, .str z, e, ⟨t, rfl⟩, fun _ _ => .str z⟩
  · rename_i vs
    obtain ⟨c1, c2⟩ := and2 (show (vs.all scV && ((He.Fa.glo s).ok K && He.tupB K s (vs.map toDv))) = true from c)
    obtain ⟨c2, c3⟩ := and2 c2
    refine ⟨_, .ref (He.ga K s), He.glo_ok X G c2, rfl, fun φ H => ?_⟩
    have t := He.tupB_ok c3 H
    rw [List.map_map] at t
    exact .tup t (dv_rds (S := lk p P w K mg) c1 φ H)
theorem defB_ok {f : Addr} {z : FD} (c : defB p K f z = true) (hL : z.L = true → z ∈ p.fns) : ∃ fd, CodeF (lk p P w K mg) z.d f fd z.N z.L ∧ ∃ oc od osl, K.lookup f = some ⟨oc, od, .func fd, osl⟩ := by
  unfold defB at c
  split at c
  · rename_i oc od nm qual params body sc gl dV kV doc pm an cdv ct bi osl lk0
    obtain ⟨c1, c2⟩ := and2 c
    obtain ⟨a1, c1⟩ := and2 c1
    obtain ⟨a2, c1⟩ := and2 c1
    obtain ⟨a3, c1⟩ := and2 c1
    obtain ⟨a4, c1⟩ := and2 c1
    obtain ⟨a5, a6⟩ := and2 c1
    obtain ⟨b1, c2⟩ := and2 c2
    obtain ⟨b2, c2⟩ := and2 c2
    obtain ⟨b3, c2⟩ := and2 c2
    obtain ⟨b4, c2⟩ := and2 c2
    obtain ⟨b5, c2⟩ := and2 c2
    obtain ⟨b6, b7⟩ := and2 c2
    have a1 := of_decide_eq_true a1
    have a2 := of_decide_eq_true a2
    subst a1 a2
    refine ⟨_, ⟨⟨nm, qual, params, body, sc, oc, od, dV, kV, doc, pm, an, cdv, ct, osl, _, rfl, lk0, a3, He.dflB_ok a5, fun φ H => dv_rds (S := lk p P w K mg) a4 φ H, scB_ok a6, b1, fun hl => ?_⟩, b2, b3, of_decide_eq_true b4, of_decide_eq_true b5, of_decide_eq_true b6⟩, oc, od, osl, lk0⟩
    rw [hl] at b7
    have b7 : (nmB p z.nm fun s => decide (qual = s) && (decide (f = He.ga K s) && isRef cdv)) = true := b7
    obtain ⟨s, e1, b7⟩ := nmB_ok b7
    obtain ⟨q1, b7⟩ := and2 b7
    obtain ⟨q2, q3⟩ := and2 b7
    have q1 := of_decide_eq_true q1
    have q2 := of_decide_eq_true q2
    subst q1
    obtain ⟨cc, rfl⟩ : ∃ cc, cdv = .ref cc := by cases cdv <;> first | exact ⟨_, rfl⟩ | cases q3
    have ec : He.codeOf K (qual, none) = cc := He.codeOf_eq (p := (qual, none)) (by show K.lookup (He.ga K qual) = _; rw [← q2]; exact lk0) rfl
    refine ⟨cc, He.tabOf K cc, rfl, ?_⟩
    refine List.mem_map.mpr ⟨z, List.mem_filter.mpr ⟨hL hl, hl⟩, ?_⟩
    rw [e1]
    show (He.codeOf K (qual, none), He.tabOf K (He.codeOf K (qual, none)), qual ++ ".<locals>.") = _
    rw [ec]
  · cases c
theorem env_con {x : Nm} {v : Val} (e : p.env.con x = some v) : (x, v) ∈ p.cons := lookup_memA e
theorem ex_mem {x : Nm} {ns : List Nm} (e : p.env.excFs x = some ns) : ∃ m, (x, ns, m) ∈ p.excs ∧ p.excs.lookup x = some (ns, m) := by
  have e : (p.excs.lookup x).map (·.1) = some ns := e
  cases q : p.excs.lookup x with
  | none => rw [q] at e; cases e
  | some r =>
    rw [q] at e
    obtain ⟨a, m⟩ := r
    cases e
    exact ⟨m, lookup_memA q, rfl⟩
theorem glB_ok (X : K.In h) (G : h.Ns mainGlobals mg) (c : glB p P K = true) (d : clB p K = true) : (∀ x v, p.env.con x = some v → ∃ s u y, p.names[x]? = some s ∧ mg s = some u ∧ RelV y u ∧ ∀ φ H, RD (lk p P w K mg) φ H v y) ∧
    (∀ x, p.env.isFn x = true → ∃ s f, p.names[x]? = some s ∧ mg s = some (.ref f)) ∧ TabF (lk p P w K mg) ∧ LinkOk (lk p P w K mg) ∧ FnF (lk p P w K mg) := by
  obtain ⟨c1, c⟩ := and2 c
  obtain ⟨c2, c⟩ := and2 c
  obtain ⟨c3, c⟩ := and2 c
  obtain ⟨c4, c⟩ := and2 c
  obtain ⟨c5, c6⟩ := and2 c
  obtain ⟨d1, d2⟩ := and2 d
  have c1 := of_decide_eq_true c1
  have c3 := of_decide_eq_true c3
  have F5 : ∀ x z, p.fnd x = some z → z ∈ p.fns ∧ ∃ s, p.names[x]? = some s ∧ mg s = some (.ref (He.ga K s)) ∧ defB p K (He.ga K s) z = true ∧ (z.N.take z.d.np = match K.lookup (He.ga K s) with
    | some ⟨_, _, .func fd, _⟩ => fd.params.args.map (·.arg)
    | _ => []) := fun x z e => by
    obtain ⟨hm, hx⟩ := fnd_mem e
    subst hx
    obtain ⟨s, e1, q⟩ := nmB_ok (List.all_eq_true.mp c5 z hm)
    obtain ⟨q1, q2⟩ := and2 q
    obtain ⟨q2, q3⟩ := and2 q2
    exact ⟨hm, s, e1, He.glo_ok X G q1, q2, of_decide_eq_true q3⟩
  have C1 : ∀ c, p.cls.contains c = true → ∃ s, p.names[c]? = some s ∧ mg s = some (.ref (He.ga K s)) ∧ L2.Cls K (He.ga K s) ∧ (!(p.mtd c p.init).isSome || (He.Fa.mkr s).ok K) = true := fun c hc => by
    obtain ⟨s, e1, q⟩ := nmB_ok (List.all_eq_true.mp d1 c (by simpa using hc))
    obtain ⟨q1, q⟩ := and2 q
    obtain ⟨q2, q⟩ := and2 q
    obtain ⟨q3, q⟩ := and2 q
    obtain ⟨q4, q5⟩ := and2 q
    exact ⟨s, e1, He.glo_ok X G q1, He.cls_ok q2, q4⟩
  refine ⟨fun x v e => ?_, fun x e => ?_, ⟨fun c P' q hq => ?_⟩, ⟨c1, fun x hx => He.free_ok X G (List.all_eq_true.mp c2 x hx)⟩, ⟨fun x e => ?_, fun x e => ?_, fun c m e => ?_, fun c e => ?_, c3, fun x d e => ?_, fun c m d e => ?_⟩⟩
  · obtain ⟨s, e1, q⟩ := nmB_ok (List.all_eq_true.mp c4 _ (env_con e))
    obtain ⟨u, y, e2, r, rd⟩ := con_ok (p := p) (P := P) (w := w) X G q
    exact ⟨s, u, y, e1, e2, r, rd⟩
  · cases q : p.fnd x with
    | none =>
      have e : (p.fnd x).isSome = true := e
      rw [q] at e
      cases e
    | some z =>
      obtain ⟨_, s, e1, e2, _⟩ := F5 x z q
      exact ⟨s, _, e1, e2⟩
  · have hq : (c, P', q) ∈ codsOf p K := hq
    refine ⟨List.mem_map.mpr ⟨_, hq, rfl⟩, fun r hr e => ?_⟩
    obtain ⟨⟨c', P2, q'⟩, hm, er⟩ := List.mem_map.mp (show r ∈ (codsOf p K).map _ from hr)
    subst er
    have := List.all_eq_true.mp (List.all_eq_true.mp c6 _ hm) _ hq
    have e : P2 = P' := e
    subst e
    have this : ((P2 != P2) || decide (q' = q)) = true := this
    rw [bne_self_eq_false, Bool.false_or] at this
    have := of_decide_eq_true this
    subst this
    rfl
  · show ((p.fnd x).map (·.d)).isSome = true
    rw [Option.isSome_map]
    exact e
  · show ((p.fnd x).map (·.d)).isSome = true
    rw [Option.isSome_map]
    exact e
  · show ((p.mtd c m).map (·.2.d)).isSome = true
    rw [Option.isSome_map]
    exact e
  · obtain ⟨e1, e2⟩ := and2 (show (p.cls.contains c && (p.mtd c p.init).isSome) = true from e)
    refine ⟨by show ((p.mtd c p.init).map (·.2.d)).isSome = true; rw [Option.isSome_map]; exact e2, e1, fun s C f n1 n2 M => ?_⟩
    obtain ⟨s', q1, q2, _, q4⟩ := C1 c e1
    have n1 : p.names[c]? = some s := n1
    rw [n1] at q1
    cases q1
    have n2 : mg s = some (.ref C) := n2
    rw [n2] at q2
    cases q2
    rw [e2] at q4
    have mk := He.mkr_ok (show (He.Fa.mkr s).ok K = true from q4)
    have := M.at_
    have : PySem.W.findIn K (.ref (He.ga K s)) "__init__" = some (some (.ref f)) := this
    rw [mk.init] at this
    cases this
    exact mk
  · have e : (p.fnd x).map (·.d) = some d := e
    cases q : p.fnd x with
    | none => rw [q] at e; cases e
    | some z =>
      rw [q] at e
      cases e
      obtain ⟨hm, s, e1, e2, e3, e4⟩ := F5 x z q
      obtain ⟨fd, CF, oc, od, osl, lk0⟩ := defB_ok (P := P) (w := w) (mg := mg) e3 fun _ => hm
      refine ⟨s, _, fd, z.N, z.L, e1, e2, CF, ?_⟩
      show (match p.fnd x with | some z => z.N.take z.d.np | none => []) = _
      rw [q]
      show z.N.take z.d.np = _
      rw [e4, lk0]
  · have e : (p.mtd c m).map (·.2.d) = some d := e
    cases q : p.mtd c m with
    | none => rw [q] at e; cases e
    | some z =>
      rw [q] at e
      cases e
      obtain ⟨hm, h1, h2⟩ := mtd_mem q
      have := List.all_eq_true.mp d2 z hm
      obtain ⟨k1, k2⟩ := and2 this
      obtain ⟨k2, k3⟩ := and2 k2
      obtain ⟨s, e1, k3⟩ := nmB_ok k3
      obtain ⟨t, e2, k3⟩ := nmB_ok k3
      obtain ⟨k3, k4⟩ := and2 k3
      obtain ⟨s', q1, q2, q3, _⟩ := C1 z.1 k2
      rw [e1] at q1
      cases q1
      obtain ⟨fd, CF, _⟩ := defB_ok (P := P) (w := w) (mg := mg) k4 fun hl => by rw [hl] at k1; cases k1
      subst h1 h2
      exact ⟨s, _, t, _, fd, z.2.N, z.2.L, e1, q2, e2, He.meth_ok k3, q3, CF⟩
end
/-- all that the soundness asks of a program -/
structure HeadOk (S : Link) : Prop where
  F : Facts S
  TF : TabF S
  FF : FnF S
  LK : LinkOk S
  EF : ExF S
  RF : RseF S
theorem HeadOk.run {S : Link} (H : HeadOk S) (k : Nat) : RunOk S k :=
  runOk H.F H.TF H.FF H.LK (fun _ C => ⟨fun D hg ha => rse_ok H.RF D hg ha, fun D hb hc => try_ok D H.F H.EF hb hc⟩) k
end Mi
end
section
set_option Elab.async false
set_option linter.all false
set_option maxRecDepth 100000
set_option maxHeartbeats 1000000
/-! S52: classes and errors by the head's check. -/
namespace Mi
open PySem PySem.Spec PyProof.Rows
open L2 (V Hp HO SqL SqT RelV upd upd_same upd_ne ne_of ne_of_none Key Cx Inv Vals FnScope)
section
variable {p : PL} {P : PySem.Program} {w : World} {K : PySem.W.Frag} {mg : Str → Option Value} {h : Heap}
theorem iniB_ok {C : Addr} {ps : List Str} (c : iniB P K C ps = true) (hs : mg "super" = none) (ht : (P.main.scope.names.lookup ("super" : Str)).isSome = false) (hn : PySem.W.nsIn K cStatics "thirdparty.any" = some none) : IniF (lk p P w K mg) C (He.ma K C "__init__") ps := by
  unfold iniB at c
  split at c
  · rename_i oc od nm qual params body sc gl cn cc kV doc pm an cda ct bi osl lk0
    obtain ⟨c1, c⟩ := and2 c
    obtain ⟨c2, c⟩ := and2 c
    obtain ⟨c3, c⟩ := and2 c
    split at c
    · cases c
    · rename_i a0 as ea
      obtain ⟨e1, c⟩ := and2 c
      obtain ⟨e2, c⟩ := and2 c
      obtain ⟨e3, c⟩ := and2 c
      obtain ⟨e4, c⟩ := and2 c
      obtain ⟨e5, c⟩ := and2 c
      obtain ⟨e6, c⟩ := and2 c
      obtain ⟨e7, c⟩ := and2 c
      obtain ⟨e8, c⟩ := and2 c
      obtain ⟨e9, c⟩ := and2 c
      obtain ⟨e10, c⟩ := and2 c
      obtain ⟨e11, c⟩ := and2 c
      obtain ⟨e12, c⟩ := and2 c
      obtain ⟨e13, c⟩ := and2 c
      obtain ⟨e14, c⟩ := and2 c
      obtain ⟨e15, c⟩ := and2 c
      obtain ⟨e16, c⟩ := and2 c
      obtain ⟨e17, c⟩ := and2 c
      obtain ⟨e18, c⟩ := and2 c
      obtain ⟨e19, c⟩ := and2 c
      obtain ⟨e20, c⟩ := and2 c
      obtain ⟨e21, c⟩ := and2 c
      obtain ⟨e22, c⟩ := and2 c
      obtain ⟨e23, c⟩ := and2 c
      obtain ⟨e24, e25⟩ := and2 c
      have e1 := of_decide_eq_true e1
      have e4 := of_decide_eq_true e4
      have e5 := of_decide_eq_true e5
      have e6 := of_decide_eq_true e6
      have e8 := of_decide_eq_true e8
      have e11 := of_decide_eq_true e11
      have e14 := of_decide_eq_true e14
      have e15 := of_decide_eq_true e15
      have e16 := of_decide_eq_true e16
      have e18 := of_decide_eq_true e18
      have e9 : sc.isCoroutine = false := by cases q : sc.isCoroutine with | false => rfl | true => rw [q] at e9; cases e9
      have e10 : sc.isGenerator = false := by cases q : sc.isGenerator with | false => rfl | true => rw [q] at e10; cases e10
      subst e4 e5 e6
      have nm1 : ∀ x ∈ a0.arg :: ps, sc.names.lookup x = some .local ∧ (x == ("__debug__" : Str)) = false ∧ (x == ("__classdict__" : Str)) = false ∧ x ≠ "__class__" := fun x hx => by
        have := List.all_eq_true.mp e12 x hx
        obtain ⟨q1, q⟩ := and2 this
        obtain ⟨q2, q3⟩ := and2 q
        obtain ⟨q4, q5⟩ := and2 (show (!(x == ("__debug__" : Str)) && !(x == ("__classdict__" : Str))) = true from q2)
        exact ⟨of_decide_eq_true q1, by simpa using q4, by simpa using q5, by simpa using q3⟩
      have po : params.posonlyargs = [] := List.length_eq_zero_iff.mp e16
      refine ⟨⟨nm, qual, params, body, sc, kV, doc, pm, ct, oc, an, od, osl, cc, cda, a0.arg, lk0, e7, ⟨e8, e9, e10, e11, rfl, fun x hx => (nm1 x hx).1, fun y hy z => ?_, fun y hy z => ?_, fun z => (nm1 _ z).2.2.2 rfl⟩, ⟨e14, e15, (nm1 _ List.mem_cons_self).1, ⟨a0, by rw [po, ea]; rfl, rfl⟩, e8, ?_, ?_, hs, ht, hn⟩, e2, ?_, e3, fun f hf => ⟨(nm1 f hf).2.1, (nm1 f hf).2.2.1⟩⟩, ?_, e18, fun f hf => of_decide_eq_true (List.all_eq_true.mp e19 f hf), ⟨?_, of_decide_eq_true e20, of_decide_eq_true e21, of_decide_eq_true e22, e23⟩, of_decide_eq_true e24, of_decide_eq_true e25⟩
      · have := List.all_eq_true.mp e13 y hy
        rw [z] at this
        cases this
      · have := List.all_eq_true.mp e13 y hy
        rw [z] at this
        exact beq_iff_eq.mp this
      · split at c2
        · rename_i a1 a2 vs a4 hk
          split at c2
          · rename_i file tf hv
            exact ⟨_, _, vs, _, file, tf, hk, hv, c2⟩
          · cases c2
        · cases c2
      · split at c1
        · rename_i a1 a2 D a4 hk
          have := of_decide_eq_true c1
          subst this
          exact ⟨_, _, _, hk⟩
        · cases c1
      · rw [ea, List.map_cons, e1]
      · intro z
        rw [z] at e17
        cases e17
      · split at c3
        · rename_i dd cd sl hk
          split at c3
          · rename_i C' bm k0 k1 k2 k3 n k5 hm hsl
            obtain ⟨f1, f⟩ := and2 c3
            obtain ⟨f2, f⟩ := and2 f
            obtain ⟨f3, f⟩ := and2 f
            obtain ⟨f4, f⟩ := and2 f
            obtain ⟨f5, f6⟩ := and2 f
            have f1 := of_decide_eq_true f1
            have f2 := of_decide_eq_true f2
            have f6 := of_decide_eq_true f6
            subst f1 f2
            obtain ⟨cnm, bs, mro, ns, qn, hd, sn, sub, ab, col, del⟩ := cd
            dsimp only at hm f3 f4
            have f3 : del = false := by cases del <;> first | rfl | cases f3
            subst hm f3 f4
            have hsl' : sl = #[k0, k1, k2, k3, some (.builtin "Exception.__new__"), k5] := by
              obtain ⟨l⟩ := sl
              simp only at hsl
              rw [hsl]
            subst hsl'
            exact ⟨_, _, _, _, _, _, _, _, _, _, _, _, _, _, _, hk, f5, f6⟩
          · cases c3
        · cases c3
  · cases c
theorem filt_ok : ∀ ns : List Nm, (ns.all fun n => (p.names[n]?).isSome) = true → ns.length = (ns.filterMap fun n => p.names[n]?).length ∧ ∀ (i : Nat) (n : Nm), ns[i]? = some n → p.names[n]? = (ns.filterMap fun n => p.names[n]?)[i]?
  | [], _ => ⟨rfl, fun i n e => by simp at e⟩
  | n :: ns, h => by
    obtain ⟨a, b⟩ := and2 (show ((p.names[n]?).isSome && ns.all fun n => (p.names[n]?).isSome) = true from h)
    obtain ⟨t, ht⟩ := Option.isSome_iff_exists.mp a
    obtain ⟨r1, r2⟩ := filt_ok ns b
    rw [List.filterMap_cons, ht]
    refine ⟨by rw [List.length_cons, List.length_cons, r1], fun i m e => ?_⟩
    cases i with
    | zero =>
      have e : some n = some m := e
      cases e
      rw [ht]
      rfl
    | succ i => exact r2 i m e
theorem head_ok (X : K.In h) (G : h.Ns mainGlobals mg) (c : headB p P K = true) : HeadOk (lk p P w K mg) := by
  obtain ⟨g, c⟩ := and2 c
  obtain ⟨d, e⟩ := and2 c
  obtain ⟨A1, A2, A3, A4, A5⟩ := glB_ok (w := w) X G g d
  obtain ⟨d1, _⟩ := and2 d
  obtain ⟨e1, e⟩ := and2 e
  obtain ⟨e2, e⟩ := and2 e
  obtain ⟨e3, e⟩ := and2 e
  obtain ⟨e4, e5⟩ := and2 e
  have hs := He.free_ok X G e1
  have ht := of_decide_eq_true e2
  have hn := of_decide_eq_true e3
  have C1 : ∀ c s C, p.names[c]? = some s → mg s = some (.ref C) → p.cls.contains c = true → C = He.ga K s ∧ L2.Cls K (He.ga K s) ∧ (∀ f t, p.flds.contains f = true → p.names[f]? = some t → L2.NoAttr K (He.ga K s) t) ∧ kitB p K c s = true := fun c s C n1 n2 hc => by
    have q := nmB_of (List.all_eq_true.mp d1 c (by simpa using hc)) n1
    obtain ⟨q1, q⟩ := and2 q
    obtain ⟨q2, q⟩ := and2 q
    obtain ⟨q3, q⟩ := and2 q
    obtain ⟨q4, q5⟩ := and2 q
    have := He.glo_ok X G q1
    rw [n2] at this
    cases this
    exact ⟨rfl, He.cls_ok q2, fun f t hf ht => He.noat_ok (nmB_of (List.all_eq_true.mp q3 f (by simpa using hf)) ht), q5⟩
  have E1 : ∀ c s C, p.names[c]? = some s → mg s = some (.ref C) → (p.env.excFs c).isSome = true → C = He.ga K s ∧ L2.XfC K (He.ga K s) ∧ (∀ f t, p.flds.contains f = true → p.names[f]? = some t → L2.NoAttr K (He.ga K s) t) := fun c s C n1 n2 hc => by
    cases q : p.env.excFs c with
    | none => rw [q] at hc; cases hc
    | some ns =>
      obtain ⟨m, hm, _⟩ := ex_mem q
      have q := nmB_of (List.all_eq_true.mp e4 _ hm) n1
      obtain ⟨q1, q⟩ := and2 q
      obtain ⟨q2, q⟩ := and2 q
      obtain ⟨q3, q⟩ := and2 q
      have := He.glo_ok X G q1
      rw [n2] at this
      cases this
      exact ⟨rfl, L2.xfB_ok q2, fun f t hf ht => He.noat_ok (nmB_of (List.all_eq_true.mp q3 f (by simpa using hf)) ht)⟩
  refine ⟨⟨A1, ?_, ?_, ?_, ?_, A2, ?_⟩, A3, A5, A4, ⟨?_, ?_⟩, ⟨?_⟩⟩
  · intro c s C f t n1 n2 hc hf n3
    obtain ⟨rfl, _, q, _⟩ := C1 c s C n1 n2 hc
    exact q f t hf n3
  · intro c s C f t n1 n2 hc hf n3
    obtain ⟨rfl, _, q⟩ := E1 c s C n1 n2 hc
    exact q f t hf n3
  · intro c s C n1 n2 hc
    obtain ⟨rfl, q, _⟩ := E1 c s C n1 n2 hc
    exact q
  · intro c hc
    obtain ⟨s, e1, q⟩ := nmB_ok (List.all_eq_true.mp d1 c (by simpa using (show p.cls.contains c = true from hc)))
    obtain ⟨q1, _⟩ := and2 q
    exact ⟨s, _, e1, He.glo_ok X G q1⟩
  · intro c s C n1 n2 hc
    obtain ⟨rfl, q, _, k⟩ := C1 c s C n1 n2 hc
    obtain ⟨k1, k⟩ := and2 k
    obtain ⟨k2, k⟩ := and2 k
    obtain ⟨k3, k⟩ := and2 k
    obtain ⟨k4, k⟩ := and2 k
    obtain ⟨k5, k6⟩ := and2 k
    refine ⟨fun n hn => ?_, q, of_decide_eq_true k2, of_decide_eq_true k3, of_decide_eq_true k4, of_decide_eq_true k5, fun d t D m1 m2 hd => ?_⟩
    · obtain ⟨a, b⟩ := and2 (List.all_eq_true.mp k1 n hn)
      exact ⟨of_decide_eq_true a, of_decide_eq_true b⟩
    · obtain ⟨rfl, _⟩ := C1 d t D m1 m2 hd
      exact of_decide_eq_true (nmB_of (List.all_eq_true.mp k6 d (by simpa using (show p.cls.contains d = true from hd))) m1)
  · intro c hc
    have hc : (p.env.excFs c).isSome = true := hc
    cases q : p.env.excFs c with
    | none => rw [q] at hc; cases hc
    | some ns =>
      obtain ⟨m, hm, _⟩ := ex_mem q
      obtain ⟨s, n1, q⟩ := nmB_ok (List.all_eq_true.mp e4 _ hm)
      obtain ⟨q1, _⟩ := and2 q
      exact ⟨s, _, n1, He.glo_ok X G q1⟩
  · intro c c' s s' C C' h1 h2 n1 n2 n3 n4
    obtain ⟨rfl, _⟩ := E1 c s C n1 n2 h1
    obtain ⟨rfl, _⟩ := E1 c' s' C' n3 n4 h2
    have h1 : (p.env.excFs c).isSome = true := h1
    have h2 : (p.env.excFs c').isSome = true := h2
    cases q1 : p.env.excFs c with
    | none => rw [q1] at h1; cases h1
    | some ns1 =>
      cases q2 : p.env.excFs c' with
      | none => rw [q2] at h2; cases h2
      | some ns2 =>
        obtain ⟨m1, hm1, l1⟩ := ex_mem q1
        obtain ⟨m2, hm2, l2⟩ := ex_mem q2
        have := nmB_of (nmB_of (List.all_eq_true.mp (List.all_eq_true.mp e5 _ hm1) _ hm2) n1) n3
        have := of_decide_eq_true this
        show PySem.W.exmOne K _ _ = some ((((p.excs.lookup c).map (·.2)).getD []).contains c')
        rw [l1, this]
        rfl
  · intro c ns hc hne
    have hc : p.env.excFs c = some ns := hc
    obtain ⟨m, hm, l1⟩ := ex_mem hc
    obtain ⟨s, n1, q⟩ := nmB_ok (List.all_eq_true.mp e4 _ hm)
    obtain ⟨q1, q⟩ := and2 q
    obtain ⟨q2, q⟩ := and2 q
    obtain ⟨q3, q4⟩ := and2 q
    have he : ns.isEmpty = false := by cases ns with | nil => exact (hne rfl).elim | cons _ _ => rfl
    have q4 : (ns.isEmpty || (ns.all (fun n => (p.names[n]?).isSome) && iniB P K (He.ga K s) (ns.filterMap fun n => p.names[n]?))) = true := q4
    rw [he, Bool.false_or] at q4
    obtain ⟨q5, q6⟩ := and2 q4
    obtain ⟨r1, r2⟩ := filt_ok (p := p) ns q5
    exact ⟨s, _, _, _, n1, He.glo_ok X G q1, iniB_ok q6 hs ht hn, r1, r2⟩
end
end Mi
end
section
set_option Elab.async false
set_option linter.all false
set_option maxRecDepth 100000
set_option maxHeartbeats 1000000
/-! S53: the head's hook, the law's end. -/
namespace Mi
open PySem PySem.Spec PyProof.Rows
open L2 (V Hp HO SqL SqT RelV upd upd_same upd_ne ne_of ne_of_none Key Cx Inv Vals FnScope Room Env0 frs FnOk Sp VK XK Un HOk)
/-- what the hook tells -/
structure SaysM (p : PL) (P : PySem.Program) (h : Heap) (K : PySem.W.Frag) : Prop where
  head : headB p P K = true
  hd : ∀ c ∈ codsOf p K, PySem.W.codeHdIn K c.1 c.2.1 = true
  out : ∀ c ∈ codsOf p K, K.lookup c.2.1 = none
  empty : ∀ c ∈ codsOf p K, h.get? c.2.1 = some { cls := .none, data := .fields #[] }
def obsM (n : Nat) (p : PL) (P : PySem.Program) (g : Addr → Option PySem.Obj) : Bool :=
  let K := He.frT g (cStatics :: He.asD g n)
  headB p P K && (codsOf p K).all fun c => PySem.W.codeHdIn K c.1 c.2.1 && (match g c.2.1 with
    | some o => He.emptyTab o
    | none => false)
theorem saysM_of {n : Nat} {p : PL} {P : PySem.Program} {h : Heap} (e : obsM n p P h.get? = true) : SaysM p P h (He.frT h.get? (cStatics :: He.asD h.get? n)) := by
  obtain ⟨h1, h2⟩ := and2 e
  have key : ∀ c ∈ codsOf p (He.frT h.get? (cStatics :: He.asD h.get? n)), PySem.W.codeHdIn (He.frT h.get? (cStatics :: He.asD h.get? n)) c.1 c.2.1 = true ∧ ∃ o, h.get? c.2.1 = some o ∧ He.emptyTab o = true := fun c hc => by
    obtain ⟨h3, h4⟩ := and2 (List.all_eq_true.mp h2 c hc)
    refine ⟨h3, ?_⟩
    cases q : h.get? c.2.1 with
    | none => rw [q] at h4; cases h4
    | some o => rw [q] at h4; exact ⟨o, rfl, h4⟩
  refine ⟨h1, fun c hc => (key c hc).1, fun c hc => ?_, fun c hc => ?_⟩
  · obtain ⟨_, o, q, z⟩ := key c hc
    exact He.frT_none q z
  · obtain ⟨_, o, q, z⟩ := key c hc
    rw [q, He.emptyTab_eq z]
def hookM (n : Nat) (p : PL) (P : PySem.Program) : PySem.W.Hook where
  α := Bool
  obs := fun s => obsM n p P s.heap.get?
  val := fun _ => true
  says := fun _ h => ∃ K : PySem.W.Frag, K.In h ∧ SaysM p P h K
  of := fun _ _ e => ⟨_, He.frT_in, saysM_of e⟩
  keeps := fun _ _ _ ⟨K, hK, c⟩ k => ⟨K, PySem.W.Frag.In.keeps hK k, ⟨c.head, c.hd, c.out, fun q hq => k _ _ (c.empty q hq)⟩⟩
theorem obsM_eq {n : Nat} {p : PL} {P : PySem.Program} {g : Addr → Option PySem.Obj} {s : Shared} (h : ∀ a, g a = s.heap.get? a) : obsM n p P g = (hookM n p P).obs s := by
  have e : g = s.heap.get? := funext h
  rw [e] <;> rfl
/-- the law's promise -/
def spM (T : List (Addr × Str)) (K : PySem.W.Frag) (n : Nat) : Sp := fun vs H Q _ => ∃ (a : Addr) (ns : List Int), vs = [.ref a] ∧ ns.length ≤ n ∧ (∀ z ∈ ns, Builtin.Int.intBits z ≤ 1048576) ∧ SqL K H a (ns.map V.int) ∧ LamX.Tabs T H ∧ ∀ H', Q (.bl true) H'
theorem rd_ints {S : Link} {φ : List Addr} {H : Hp} : ∀ ns : List Int, RDs S φ H (ns.map Val.int) (ns.map V.int)
  | [] => .nil
  | n :: ns => .cons (.int n) (rd_ints ns)
theorem lawfn_ok {S : Link} {k n : Nat} {base : Heap} (HO : HeadOk S) (TB : ∀ c P q, (c, P, q) ∈ S.cods → LamX.TabB base S.mg c P) {d : Fn} {N : List Str} {L : Bool} {f : Addr} {fd : FuncData} {x : Str} (CF : CodeF S d f fd N L) (hx : fd.params.args.map (·.arg) = [x]) 
    (maths : ∀ ns : List Int, ns.length ≤ n → (∀ z ∈ ns, Builtin.Int.intBits z ≤ 1048576) → ∃ M', runD S k d [.rl (ns.map Val.int)] [] = .ok (.bl true) M') :
    FnOk S.P S.w S.K S.mg base (L2.CX S.P S.w) (2 * k) f fd [x] (spM S.tabs S.K n) := by
  refine ⟨fun vs H Q E ⟨a, ns, e, _⟩ => by rw [e]; rfl, fun A outer s H args us vs Q E hr e0 hb rv ⟨a, ns, ev, hl, hbits, sq, tb, hq⟩ => ?_⟩
  subst ev
  obtain ⟨M', hM⟩ := maths ns hl hbits
  have core : ∀ H0 : Hp, Env0 S.P S.w S.K S.mg base A outer s H0 → LamX.Tabs S.tabs H0 → ((∃ o, H0 a = some (.frz o (.lst (ns.map V.int)))) ∨ SqL S.K (fun _ => none) a (ns.map V.int)) →
      codeAny (PySem.model S.P S.w) A (.call (.ref f) args) (L2.CR (L2.CX S.P S.w) outer S.P S.w H0 s (fun v _ => v = .bl true) fun _ _ _ => False) s := by
    intro H0 E0 T0 q0
    refine (HO.run k).fn base ⟨E0.mod, TB⟩ d f fd N L CF A outer s H0 args us [.ref a] _ _ [] [] [.rl (ns.map Val.int)] hr E0 (by rw [hx]; exact hb) rv ⟨rfl, List.nodup_nil, fun n o b e => by simp at e, T0⟩ ?_ ?_
    · refine .cons (.d rfl ?_) .nil
      rcases q0 with ⟨o, q0⟩ | q0
      · exact .rl (.inl q0) (rd_ints ns)
      · exact .rl (o := { cls := .none, data := .plain }) (.inr q0) (rd_ints ns)
    · rw [hM]
      intro φ' H' y R K r
      cases r
      rfl
  have fin : ∀ H0 : Hp, (∀ r s', L2.CR (L2.CX S.P S.w) outer S.P S.w H0 s (fun v _ => v = .bl true) (fun _ _ _ => False) r s' → L2.CR (L2.CX S.P S.w) outer S.P S.w H s Q E r s') → codeAny (PySem.model S.P S.w) A (.call (.ref f) args) (L2.CR (L2.CX S.P S.w) outer S.P S.w H0 s (fun v _ => v = .bl true) fun _ _ _ => False) s →
      codeAny (PySem.model S.P S.w) A (.call (.ref f) args) (L2.CR (L2.CX S.P S.w) outer S.P S.w H s Q E) s := fun H0 i c => codeAny_mono c i
  have plain : ∀ r s', L2.CR (L2.CX S.P S.w) outer S.P S.w H s (fun v _ => v = .bl true) (fun _ _ _ => False) r s' → L2.CR (L2.CX S.P S.w) outer S.P S.w H s Q E r s' := fun r s' c => by
    cases r with
    | error e =>
      obtain ⟨_, _, _, _, _, _, _, _, _, _, _, _, z⟩ := c
      exact z.elim
    | ok fl =>
      cases fl with
      | ret u =>
        obtain ⟨v, H', a1, a2, a3, a4, a5, a6⟩ := c
        subst a6
        exact ⟨_, H', a1, a2, a3, a4, a5, hq H'⟩
      | next => exact False.elim c
      | brk => exact False.elim c
      | cont => exact False.elim c
  rcases sq with (hlst | ⟨o, hfrz⟩) | hK
  · -- tracked as a list: told frozen for the run
    have hobj := e0.hok a _ hlst
    obtain ⟨hz, its, nn, rits, hget⟩ := hobj
    let o : PySem.Obj := { cls := .type "list", data := .seq its.toArray nn }
    have ea : upd H a (.frz o (.lst (ns.map V.int))) a = some (.frz o (.lst (ns.map V.int))) := upd_same
    have nn0 : ∀ b, H b = none → upd H a (.frz o (.lst (ns.map V.int))) b = none := fun b e => by
      rw [upd_ne (fun z => by rw [z, hlst] at e; cases e)]; exact e
    have E0 : Env0 S.P S.w S.K S.mg base A outer s (upd H a (.frz o (.lst (ns.map V.int)))) := by
      refine ⟨e0.frames, e0.mod, fun b u e => ⟨(e0.bs b u e).1, nn0 b (e0.bs b u e).2⟩, e0.bsz, e0.funs, fun b hb => nn0 b (e0.frf b hb), fun b u e => ?_, e0.bare⟩
      by_cases hba : b = a
      · subst hba
        rw [upd_same] at e
        cases e
        exact ⟨hget, hz, its, nn, rits, hget⟩
      · rw [upd_ne hba] at e
        exact (e0.hok b u e).stay (fun c v hc q => q) (fun c hc => by rw [upd_ne (fun z => by rw [z, hlst] at hc; cases hc)]; exact hc) fun c xs hc => by rw [upd_ne (fun z => by rw [z, hlst] at hc; cases hc)]; exact hc
    refine fin _ (fun r s' c => ?_) (core _ E0 (tabs_mono tb fun b u e hu => by
      rw [upd_ne (fun z => by
        rw [z, hlst] at e
        cases e
        rcases hu with i | ⟨ps, q⟩
        · exact i
        · cases q)]
      exact e) (.inl ⟨o, ea⟩))
    cases r with
    | error e =>
      obtain ⟨_, _, _, _, _, _, _, _, _, _, _, _, z⟩ := c
      exact z.elim
    | ok fl =>
      cases fl with
      | ret u =>
        obtain ⟨v, H', a1, a2, un, a4, a5, a6⟩ := c
        subst a6
        refine ⟨_, H', a1, a2, ⟨fun b o e n => un.keep b o e (nn0 b n), fun b o e n => un.slot b o e (nn0 b n), fun b o e n => un.free b o e (nn0 b n), fun b o e => un.there b o e, fun b xs e => un.tups b xs ?_, fun b o u e => un.frzs b o u ?_, fun b ps e => un.tbls b ps ?_⟩, a4, a5, hq H'⟩
        · rw [upd_ne (fun z => by rw [z, hlst] at e; cases e)]; exact e
        · rw [upd_ne (fun z => by rw [z, hlst] at e; cases e)]; exact e
        · rw [upd_ne (fun z => by rw [z, hlst] at e; cases e)]; exact e
      | next => exact False.elim c
      | brk => exact False.elim c
      | cont => exact False.elim c
  · exact fin H plain (core H e0 tb (.inl ⟨o, hfrz⟩))
  · exact fin H plain (core H e0 tb (.inr (.inr hK)))
theorem law_walkM {l : PySem.W.OpenLaw} {q : PySem.Program} {loose : List Str} {XP : (Str → Option Value) → Heap → Prop} {dr : DefRec} (p : PL) {m k n : Nat} {x : Str} {lawN : Nm} {z : FD}
    (hn : l.most = some n) (hn2 : n ≤ sizeLine) (hdf : dr.params.defaults = []) (hr : Room (2 * (k + 1)) callerA) (hz : p.fnd lawN = some z) (hname : p.names[lawN]? = some dr.name) (hdfl : z.d.dfl = []) (hpars : z.N.take z.d.np = [x])
    (maths : ∀ ns : List Int, ns.length ≤ n → (∀ z ∈ ns, Builtin.Int.intBits z ≤ 1048576) → ∃ M', run p.prog (k + 1) (.fn lawN) [.rl (ns.map Val.int)] [] = .ok (.bl true) M') :
    PySem.W.WalkO q loose XP (hookM m p l.prog).says l.row.toRowW dr [] (fun f vs => PySem.call f vs) := by
  refine LamX.walk_ofTsE (CX := fun w => L2.CX l.prog w) (x := x) hn hn2 hdf hr (fun w mg fa h ⟨K, KX, Y⟩ G hmg => ⟨K, KX, ?_⟩) fun w H s e s' c => ?_
  · have HO := head_ok (w := w) KX G Y.head
    have hfn : (lk p l.prog w K mg).Pr.fn lawN = some z.d := by
      show (p.fnd lawN).map (·.d) = _
      rw [hz]
      rfl
    obtain ⟨s, f, fd, N, L, e1, e2, CF, e3⟩ := HO.FF.fn lawN z.d hfn
    have e1 : p.names[lawN]? = some s := e1
    rw [hname] at e1
    cases e1
    have e2 : mg dr.name = some (.ref f) := e2
    rw [hmg] at e2
    cases e2
    have hx : fd.params.args.map (·.arg) = [x] := by
      rw [← e3, ← hpars]
      show (match p.fnd lawN with | some z => z.N.take z.d.np | none => []) = _
      rw [hz]
    have hn1 : fd.params.args.length = 1 := by
      have := congrArg List.length hx
      rw [List.length_map] at this
      exact this
    refine ⟨fd, (codsOf p K).map fun c => (c.1, c.2.1), spM (tabsOf p K) K n, ?_, ?_, ?_, fun s u => ?_, fun H a ns hl hb hT hS => ⟨a, ns, rfl, hl, hb, hS, ?_, fun _ => rfl⟩, fun base KB GB TB => ?_⟩
    · intro r hr'
      obtain ⟨c, hc, e⟩ := List.mem_map.mp hr'
      rw [← e]
      exact Y.empty c hc
    · intro r hr'
      obtain ⟨c, hc, e⟩ := List.mem_map.mp hr'
      rw [← e]
      exact Y.out c hc
    · intro r hr'
      obtain ⟨c, hc, e⟩ := List.mem_map.mp hr'
      rw [← e]
      exact PySem.W.codeHd_of_K KX (Y.hd c hc)
    · obtain ⟨_, qual, params, body, scope, oc, od, dV, kV, doc, pm, an, cdv, ct, osl, dvs, rfl, lk0, hcd, hD, hR, _⟩ := CF.ex
      have hd0 := hR [] (fun _ => none)
      rw [hdfl] at hd0
      cases hd0
      have hdV : dV = .none := by
        rcases hD with ⟨_, e⟩ | ⟨e, _⟩
        · exact e
        · exact (e rfl).elim
      subst hdV
      obtain ⟨kk, q1, q2⟩ := bind_pos (fd := PySem.W.fnOf _ qual params body scope .none kV doc pm an cdv ct) (us := [u]) (ds := []) CF.pl (by rw [hn1]; exact Nat.le_refl _) (Nat.zero_le _) (by rw [hn1]; exact Nat.le_refl _)
      refine L2.BindsTo.of_looks fun M => ?_
      rw [q1]
      refine PySem.W.Looks.of_pure (show (seqItems? .none >>= kk) = _ from (q2 none rfl).trans ?_)
      rw [hx]
      rfl
    · intro r hr'
      obtain ⟨c, hc, e⟩ := List.mem_map.mp (show r ∈ (codsOf p K).map _ from hr')
      rw [← e]
      refine ⟨#[], hT _ (List.mem_map.mpr ⟨c, hc, rfl⟩), ?_, fun pos cv z => ?_⟩
      · exact True.intro
      · cases z
    · refine lawfn_ok (S := lk p l.prog w K mg) (k := k + 1) HO (fun c P q hc => TB (c, P) (List.mem_map.mpr ⟨(c, P, q), hc, rfl⟩)) CF hx fun ns hl hb => ?_
      obtain ⟨M', hM⟩ := maths ns hl hb
      refine ⟨M', ?_⟩
      rw [← hM]
      show runB p.env (run p.prog k) z.d _ _ = (match p.prog.fn lawN with | some d => runB p.env (run p.prog k) d (fill d [.rl (ns.map Val.int)]) [] | none => .err)
      have : p.prog.fn lawN = some z.d := hfn
      rw [this]
      show _ = runB p.env (run p.prog k) z.d (fill z.d [.rl (ns.map Val.int)]) []
      unfold fill
      rw [hdfl, List.drop_nil, List.append_nil]
  · obtain ⟨_, _, _, _, _, _, _, _, _, _, _, _, z⟩ := c
    exact z
end Mi
end
section
set_option maxRecDepth 100000
namespace Mi.Pg
def names : List Str := [("is_integer" : Str), ("is_between" : Str), ("MOST_PERIOD" : Str), ("InvalidCount" : Str), ("need_periods" : Str), ("InvalidNumber" : Str), ("divisor" : Str), ("Refused" : Str), ("inverse" : Str), ("ups_in" : Str), ("MOST_RING_STEPS" : Str), ("_law_is" : Str), ("_law_error" : Str), ("at" : Str), ("_law_box" : Str), ("_law_take" : Str), ("_law_walk" : Str), ("ring_steps" : Str), ("ring_place" : Str), ("_law_gcd" : Str), ("_law_all" : Str), ("law" : Str), ("KinError" : Str), ("__init__" : Str)]
def f_is_integer : Fn := { np := 1, n := 1, dfl := [], body := [.ret (some (.and [.isi (.var 0) [.int], .not (.isi (.var 0) [.bool])]))] }
def f_is_between : Fn := { np := 3, n := 3, dfl := [], body := [.ret (some (.and [.call 0 [.ex (.var 0)], .cmp (.var 1) [.mk .le (.var 0), .mk .le (.var 2)]]))] }
def f_divisor : Fn := { np := 2, n := 2, dfl := [], body := [.whl (.var 1) [.asg (.tup [.var 0, .var 1]) (.tup [.var 1, .bin .mod (.var 0) (.var 1)])], .ret (some (.var 0))] }
def f_need_periods : Fn := { np := 2, n := 2, dfl := [], body := [.ifs (.not (.call 1 [.ex (.var 0), .ex (.lit (.int 1)), .ex (.glo 2)])) [.rse 3 [.lit (.int 0)]] [], .ifs (.not (.call 1 [.ex (.var 1), .ex (.lit (.int 1)), .ex (.glo 2)])) [.rse 3 [.lit (.int 1)]] []] }
def f_inverse : Fn := { np := 2, n := 7, dfl := [], body := [.asg (.tup [.var 2, .var 3, .var 4, .var 5]) (.tup [.var 1, .bin .mod (.var 0) (.var 1), .lit (.int 0), .lit (.int 1)]), .whl (.var 3) [.asg (.var 6) (.bin .fdiv (.var 2) (.var 3)), .asg (.tup [.var 2, .var 3, .var 4, .var 5]) (.tup [.var 3, .bin .sub (.var 2) (.bin .mul (.var 6) (.var 3)), .var 5, .bin .sub (.var 4) (.bin .mul (.var 6) (.var 5))])], .ret (some (.bin .mod (.var 4) (.var 1)))] }
def f_ups_in : Fn := { np := 4, n := 4, dfl := [], body := [.ret (some (.bin .fdiv (.bin .sub (.bin .add (.var 2) (.bin .mul (.var 3) (.var 0))) (.bin .mod (.bin .add (.var 2) (.bin .mul (.var 3) (.var 0))) (.bin .add (.var 0) (.var 1)))) (.bin .add (.var 0) (.var 1))))] }
def f_ring_steps : Fn := { np := 4, n := 10, dfl := [], body := [.ex (.call 4 [.ex (.var 0), .ex (.var 1)]), .for (.tup [.var 4, .var 5]) (.enum (.lst [.var 2, .var 3])) [.ifs (.not (.call 1 [.ex (.var 5), .ex (.lit (.int 0)), .ex (.bin .sub (.bin .add (.var 0) (.var 1)) (.lit (.int 1)))])) [.rse 5 [.var 4]] []], .asg (.var 6) (.call 6 [.ex (.var 0), .ex (.var 1)]), .ifs (.cmp (.bin .mod (.bin .sub (.var 3) (.var 2)) (.var 6)) [.mk .ne (.lit (.int 0))]) [.rse 7 [.neg (.lit (.int 1))]] [], .asg (.var 7) (.bin .fdiv (.bin .add (.var 0) (.var 1)) (.var 6)), .asg (.var 8) (.bin .mod (.bin .mul (.bin .fdiv (.bin .sub (.var 3) (.var 2)) (.var 6)) (.call 8 [.ex (.bin .fdiv (.var 0) (.var 6)), .ex (.var 7)])) (.var 7)), .asg (.var 9) (.call 9 [.ex (.var 0), .ex (.var 1), .ex (.var 2), .ex (.var 8)]), .ret (some (.tup [.bin .sub (.var 8) (.var 9), .var 9]))] }
def f_ring_place : Fn := { np := 3, n := 3, dfl := [], body := [.ex (.call 4 [.ex (.var 0), .ex (.var 1)]), .ifs (.not (.call 1 [.ex (.var 2), .ex (.lit (.int 0)), .ex (.glo 10)])) [.rse 3 [.lit (.int 2)]] [], .ret (some (.bin .mod (.bin .mul (.var 2) (.var 0)) (.bin .add (.var 0) (.var 1))))] }
def f__law_box : Fn := { np := 1, n := 6, dfl := [], body := [.asg (.tup [.var 1, .var 2]) (.tup [.lst [], .lit (.int 84131)]), .for (.tup [.var 3, .var 4]) (.enum (.sl (.var 0) none (some (.lit (.int 63))))) [.asg (.var 5) (.bin .add (.bin .mul (.bi .abs [.var 4]) (.lit (.int 2))) (.bi .int [.cmp (.var 4) [.mk .lt (.lit (.int 0))]])), .ifs (.cmp (.bi .abs [.var 4]) [.mk .ge (.bin .pow (.lit (.int 10)) (.lit (.int 18)))]) [.ex (.me .append (.var 1) [.bi .abs [.var 4]])] [], .asg (.var 2) (.bin .add (.bin .mod (.bi .int [.bin .add (.bin .add (.bin .mul (.var 2) (.lit (.int 48271))) (.bin .mul (.bin .mod (.bi .int [.var 5]) (.lit (.int 2147483629))) (.bin .add (.bin .mul (.lit (.int 2)) (.var 3)) (.lit (.int 33211))))) (.lit (.int 37))]) (.lit (.int 2147483629))) (.lit (.int 1)))], .ret (some (.lst [.var 1, .var 2]))] }
def f__law_take : Fn := { np := 2, n := 3, dfl := [], body := [.ifs (.cmp (.ix (.var 0) (.lit (.int 0))) [.mk .ne (.lst [])]) [.asg (.var 2) (.ix (.ix (.var 0) (.lit (.int 0))) (.lit (.int 0))), .asg (.sub (.var 0) (.lit (.int 0))) (.bin .add (.ite (.cmp (.var 2) [.mk .ge (.var 1)]) (.lst [.bin .fdiv (.var 2) (.var 1)]) (.lst [])) (.sl (.ix (.var 0) (.lit (.int 0))) (some (.lit (.int 1))) none)), .ret (some (.bin .mod (.bi .int [.var 2]) (.var 1)))] [], .asg (.sub (.var 0) (.lit (.int 1))) (.bin .mod (.bi .int [.bin .mul (.ix (.var 0) (.lit (.int 1))) (.lit (.int 48271))]) (.lit (.int 2147483647))), .ret (some (.bin .mod (.bi .int [.bin .fdiv (.bin .add (.bin .mul (.ix (.var 0) (.lit (.int 1))) (.lit (.int 69621))) (.lit (.int 47))) (.lit (.int 1013))]) (.var 1)))] }
def f__law_is : Fn := { np := 2, n := 5, dfl := [], body := [.ifs (.isi (.var 1) [.tuple]) [.ifs (.or [.not (.isi (.var 0) [.tuple]), .cmp (.bi .len [.var 0]) [.mk .ne (.bi .len [.var 1])]]) [.ret (some (.lit (.bl false)))] [], .ret (some (.cmp (.comp [2, 3, 4] (.loop (.tup [.var 3, .var 4]) (.zip (.var 0) (.var 1)) [.not (.call 11 [.ex (.var 3), .ex (.var 4)])] (.elt (.lit (.int 1))))) [.mk .eq (.lst [])]))] [], .ifs (.or [.cmp (.var 1) [.mk .is (.lit (.non))], .cmp (.var 1) [.mk .is (.lit (.bl true))], .cmp (.var 1) [.mk .is (.lit (.bl false))]]) [.ret (some (.ite (.cmp (.var 1) [.mk .is (.lit (.non))]) (.cmp (.var 0) [.mk .is (.lit (.non))]) (.ite (.cmp (.var 1) [.mk .is (.lit (.bl true))]) (.cmp (.var 0) [.mk .is (.lit (.bl true))]) (.cmp (.var 0) [.mk .is (.lit (.bl false))]))))] [], .ifs (.isi (.var 1) [.int]) [.ret (some (.and [.isi (.var 0) [.int], .not (.isi (.var 0) [.bool]), .cmp (.var 0) [.mk .eq (.var 1)]]))] [], .ret (some (.and [.isi (.var 1) [.str], .isi (.var 0) [.str], .cmp (.var 0) [.mk .eq (.var 1)]]))] }
def f__law_all : Fn := { np := 3, n := 4, dfl := [], body := [.for (.var 3) (.val (.var 1)) [.ifs (.not (.call 11 [.ex (.call 12 [.lam [] (.app 0 [.ex (.var 3)])]), .ex (.var 2)])) [.ret (some (.lit (.bl false)))] []], .ret (some (.lit (.bl true)))] }
def f__law_gcd : Fn := { np := 2, n := 2, dfl := [], body := [.whl (.cmp (.var 1) [.mk .ne (.lit (.int 0))]) [.asg (.tup [.var 0, .var 1]) (.tup [.var 1, .bin .sub (.var 0) (.bin .mul (.bin .fdiv (.var 0) (.var 1)) (.var 1))])], .ret (some (.var 0))] }
def f__law_error : Fn := { np := 1, n := 2, dfl := [], body := [.try [.ex (.app 0 [])] [(5, some 1, [.ret (some (.tup [.lit (.str "number"), .fld (.var 1) 13]))]), (3, some 1, [.ret (some (.tup [.lit (.str "count"), .fld (.var 1) 13]))]), (7, some 1, [.ret (some (.tup [.lit (.str "refused"), .fld (.var 1) 13]))])], .ret (some (.tup [.lit (.str "told")]))] }
def f__law_walk : Fn := { np := 4, n := 8, dfl := [], body := [.asg (.tup [.var 4, .var 5, .var 6]) (.tup [.lit (.int 0), .lit (.int 0), .var 2]), .for (.var 7) (.range [.bin .add (.var 0) (.var 1)]) [.ifs (.cmp (.var 6) [.mk .eq (.var 3)]) [.ret (some (.tup [.var 4, .var 5]))] [], .ifs (.cmp (.bin .add (.var 6) (.var 0)) [.mk .lt (.bin .add (.var 0) (.var 1))]) [.asg (.tup [.var 6, .var 4]) (.tup [.bin .add (.var 6) (.var 0), .bin .add (.var 4) (.lit (.int 1))])] [.asg (.tup [.var 6, .var 5]) (.tup [.bin .sub (.var 6) (.var 1), .bin .add (.var 5) (.lit (.int 1))])]], .ret (some (.lit (.non)))] }
def f_law : Fn := { np := 1, n := 24, dfl := [], body := [.asg (.var 1) (.call 14 [.ex (.var 0)]), .for (.var 2) (.range [.lit (.int 12)]) [.asg (.tup [.var 3, .var 4]) (.tup [.bin .add (.lit (.int 1)) (.call 15 [.ex (.var 1), .ex (.lit (.int 20))]), .bin .add (.lit (.int 1)) (.call 15 [.ex (.var 1), .ex (.lit (.int 20))])]), .asg (.tup [.var 5, .var 6]) (.tup [.call 15 [.ex (.var 1), .ex (.bin .add (.var 3) (.var 4))], .call 15 [.ex (.var 1), .ex (.bin .add (.var 3) (.var 4))]]), .asg (.var 7) (.call 16 [.ex (.var 3), .ex (.var 4), .ex (.var 5), .ex (.var 6)]), .asg (.var 8) (.call 12 [.lam [] (.call 17 [.ex (.var 3), .ex (.var 4), .ex (.var 5), .ex (.var 6)])]), .ifs (.not (.call 11 [.ex (.var 8), .ex (.ite (.cmp (.var 7) [.mk .isnot (.lit (.non))]) (.tup [.lit (.str "told")]) (.tup [.lit (.str "refused"), .neg (.lit (.int 1))]))])) [.ret (some (.lit (.bl false)))] [], .ifs (.and [.cmp (.var 7) [.mk .isnot (.lit (.non))], .not (.call 11 [.ex (.tup [.call 17 [.ex (.var 3), .ex (.var 4), .ex (.var 5), .ex (.var 6)], .callK 17 [.var 3, .var 4, .var 5, .var 6]]), .ex (.tup [.var 7, .var 7])])]) [.ret (some (.lit (.bl false)))] [], .asg (.tup [.var 9, .var 10]) (.tup [.call 15 [.ex (.var 1), .ex (.lit (.int 60))], .lit (.int 0)]), .for (.var 11) (.range [.var 9]) [.asg (.var 10) (.ite (.cmp (.bin .add (.var 10) (.var 3)) [.mk .lt (.bin .add (.var 3) (.var 4))]) (.bin .add (.var 10) (.var 3)) (.bin .sub (.var 10) (.var 4)))], .ifs (.not (.call 11 [.ex (.tup [.call 18 [.ex (.var 3), .ex (.var 4), .ex (.var 9)], .callK 18 [.var 3, .var 4, .var 9]]), .ex (.tup [.var 10, .var 10])])) [.ret (some (.lit (.bl false)))] [], .asg (.var 12) (.call 19 [.ex (.var 3), .ex (.var 4)]), .ifs (.not (.call 11 [.ex (.call 18 [.ex (.var 3), .ex (.var 4), .ex (.bin .mul (.bin .fdiv (.bin .add (.var 3) (.var 4)) (.var 12)) (.call 15 [.ex (.var 1), .ex (.bin .pow (.lit (.int 10)) (.lit (.int 6)))]))]), .ex (.lit (.int 0))])) [.ret (some (.lit (.bl false)))] []], .asg (.tup [.var 13, .var 14]) (.tup [.bin .add (.bin .pow (.lit (.int 10)) (.lit (.int 29))) (.call 15 [.ex (.var 1), .ex (.bin .pow (.lit (.int 10)) (.lit (.int 9)))]), .bin .add (.bin .pow (.lit (.int 10)) (.lit (.int 28))) (.call 15 [.ex (.var 1), .ex (.bin .pow (.lit (.int 10)) (.lit (.int 9)))])]), .asg (.var 9) (.call 15 [.ex (.var 1), .ex (.bin .pow (.lit (.int 10)) (.lit (.int 15)))]), .asg (.var 12) (.call 19 [.ex (.var 13), .ex (.var 14)]), .asg (.tup [.var 15, .var 16]) (.tup [.call 18 [.ex (.var 13), .ex (.var 14), .ex (.var 9)], .bin .fdiv (.bin .add (.var 13) (.var 14)) (.var 12)]), .asg (.tup [.var 17, .var 18]) (.call 17 [.ex (.var 13), .ex (.var 14), .ex (.lit (.int 0)), .ex (.var 15)]), .ifs (.or [.cmp (.bin .add (.var 17) (.var 18)) [.mk .ne (.bin .sub (.var 9) (.bin .mul (.bin .fdiv (.var 9) (.var 16)) (.var 16)))], .cmp (.bin .sub (.bin .mul (.var 17) (.var 13)) (.bin .mul (.var 18) (.var 14))) [.mk .ne (.var 15)]]) [.ret (some (.lit (.bl false)))] [], .asg (.var 19) (.call 17 [.ex (.var 13), .ex (.var 14), .ex (.var 15), .ex (.lit (.int 0))]), .ifs (.and [.cmp (.bin .sub (.var 9) (.bin .mul (.bin .fdiv (.var 9) (.var 16)) (.var 16))) [.mk .ne (.lit (.int 0))], .not (.call 11 [.ex (.tup [.bin .add (.var 17) (.ix (.var 19) (.lit (.int 0))), .bin .add (.var 18) (.ix (.var 19) (.lit (.int 1)))]), .ex (.tup [.bin .fdiv (.var 14) (.var 12), .bin .fdiv (.var 13) (.var 12)])])]) [.ret (some (.lit (.bl false)))] [], .for (.var 20) (.val (.lst [.lit (.non), .lit (.int 0), .neg (.lit (.int 1)), .bin .add (.bin .pow (.lit (.int 10)) (.lit (.int 30))) (.lit (.int 1)), .lit (.bl true), .lit (.str "3")])) [.for (.var 21) (.val (.lst [.lm 24 [3, 4] (.call 17 [.ex (.var 3), .ex (.var 4), .ex (.lit (.non)), .ex (.lit (.non))]), .lm 24 [22, 23] (.call 18 [.ex (.var 22), .ex (.var 23), .ex (.lit (.non))])])) [.ifs (.not (.call 11 [.ex (.call 12 [.lam [] (.app 21 [.ex (.var 20), .ex (.lit (.non))])]), .ex (.tup [.lit (.str "count"), .lit (.int 0)])])) [.ret (some (.lit (.bl false)))] [], .ifs (.not (.call 11 [.ex (.call 12 [.lam [] (.app 21 [.ex (.lit (.int 3)), .ex (.var 20)])]), .ex (.tup [.lit (.str "count"), .lit (.int 1)])])) [.ret (some (.lit (.bl false)))] []]], .for (.var 20) (.val (.lst [.lit (.non), .neg (.lit (.int 1)), .lit (.int 8), .lit (.bl true)])) [.ifs (.not (.call 11 [.ex (.call 12 [.lam [] (.call 17 [.ex (.lit (.int 3)), .ex (.lit (.int 5)), .ex (.var 20), .ex (.lit (.non))])]), .ex (.tup [.lit (.str "number"), .lit (.int 0)])])) [.ret (some (.lit (.bl false)))] [], .ifs (.not (.call 11 [.ex (.call 12 [.lam [] (.call 17 [.ex (.lit (.int 3)), .ex (.lit (.int 5)), .ex (.lit (.int 0)), .ex (.var 20)])]), .ex (.tup [.lit (.str "number"), .lit (.int 1)])])) [.ret (some (.lit (.bl false)))] []], .ifs (.not (.call 20 [.lam [20] (.call 18 [.ex (.lit (.int 3)), .ex (.lit (.int 5)), .ex (.var 20)]), .ex (.lst [.lit (.non), .neg (.lit (.int 1)), .bin .add (.bin .pow (.lit (.int 10)) (.lit (.int 60))) (.lit (.int 1)), .lit (.bl true)]), .ex (.tup [.lit (.str "count"), .lit (.int 2)])])) [.ret (some (.lit (.bl false)))] [], .ret (some (.call 11 [.ex (.tup [.call 17 [.ex (.lit (.int 3)), .ex (.lit (.int 5)), .ex (.lit (.int 0)), .ex (.lit (.int 7))], .call 18 [.ex (.lit (.int 3)), .ex (.lit (.int 5)), .ex (.lit (.int 5))], .call 17 [.ex (.lit (.int 4)), .ex (.lit (.int 4)), .ex (.lit (.int 1)), .ex (.lit (.int 5))], .call 17 [.ex (.lit (.int 1)), .ex (.lit (.int 1)), .ex (.lit (.int 0)), .ex (.lit (.int 0))]]), .ex (.tup [.tup [.lit (.int 4), .lit (.int 1)], .lit (.int 7), .tup [.lit (.int 1), .lit (.int 0)], .tup [.lit (.int 0), .lit (.int 0)]])]))] }
def pl : PL where
  names := names
  free := ["len", "abs", "min", "max", "int", "str", "tuple", "list", "sum", "any", "all", "sorted", "range", "enumerate", "zip", "reversed", "isinstance", "bool"]
  cons := [(2, .int 1000000000000000000000000000000), (10, .int 1000000000000000000000000000000000000000000000000000000000000)]
  fns := [⟨0, f_is_integer, ["value"], false⟩, ⟨1, f_is_between, ["value", "least", "most"], false⟩, ⟨6, f_divisor, ["one", "other"], false⟩, ⟨4, f_need_periods, ["one", "other"], false⟩, ⟨8, f_inverse, ["number", "many", "one", "other", "first", "second", "times"], false⟩, ⟨9, f_ups_in, ["one", "other", "begin", "steps"], false⟩, ⟨17, f_ring_steps, ["one", "other", "number", "target", "at", "value", "shared", "many", "steps", "down"], false⟩, ⟨18, f_ring_place, ["one", "other", "steps"], false⟩, ⟨14, f__law_box, ["script", "rest", "state", "k", "cell", "size"], false⟩, ⟨15, f__law_take, ["box", "many", "cell"], false⟩, ⟨11, f__law_is, ["told", "due", ".0", "one", "other"], false⟩, ⟨20, f__law_all, ["ask", "some", "due", "one"], true⟩, ⟨19, f__law_gcd, ["one", "other"], false⟩, ⟨12, f__law_error, ["call", "e"], false⟩, ⟨16, f__law_walk, ["one", "other", "number", "target", "up", "down", "at", "turn"], false⟩, ⟨21, f_law, ["script", "box", "turn", "one", "other", "number", "target", "due", "heard", "steps", "at", "step", "shared", "great", "less", "place", "many", "up", "down", "back", "bad", "ask", "two", "more"], true⟩]
  cls := []
  mts := []
  excs := [(22, [], [22]), (5, [13], [5, 22]), (3, [13], [3, 22]), (7, [13], [7, 22])]
  flds := [13]
  init := 23
def lawN : Nm := 21
end Mi.Pg
end
section
set_option Elab.async false
set_option linter.all false
/-! M0: a logic for the small language: what an end may be, step by step. -/
namespace Mi
def Rw {α : Type} (r : R α) (Q : α → Mem → Prop) (X : Exc → Mem → Prop) : Prop :=
  match r with
  | .ok v M => Q v M
  | .exc x M => X x M
  | .err => False
def Fw (r : Fl) (Q : Fl → Prop) : Prop :=
  match r with
  | .err => False
  | r => Q r
def Ck (b : Bool) (p : Prop) : Prop := match b with
  | true => p
  | false => False
def Tq (b : Option Bool) (p q : Prop) : Prop := match b with
  | some true => p
  | some false => q
  | none => False
def Bw (b : Option Bool) (f : Bool → Prop) : Prop := match b with
  | some b => f b
  | none => False
def Ow {α : Type} (v : Option α) (f : α → Prop) : Prop := match v with
  | some v => f v
  | none => False
/-- a slot's value -/
def Ov (v : Option (Option Val)) (f : Val → Prop) : Prop := match v with
  | some (some v) => f v
  | _ => False
def Sq (r : Fl) (f : Sl → Mem → Prop) (Q : Fl → Prop) : Prop := match r with
  | .nx σ M => f σ M
  | r => Q r
def Rt (r : Fl) (Q : Val → Mem → Prop) (X : Exc → Mem → Prop) : Prop := match r with
  | .nx _ M => Q .non M
  | .rt v _ M => Ck v.isD (Q v M)
  | .exc x _ M => X x M
  | _ => False
abbrev noX : Exc → Mem → Prop := fun _ _ => False
section
variable {α β : Type} {P : Env} {o : Oracle} {σ : Sl} {M : Mem} {Q : Val → Mem → Prop} {X : Exc → Mem → Prop} {F : Fl → Prop}
theorem Rw_ok {v : α} {q : α → Mem → Prop} : Rw (.ok v M) q X = q v M := rfl
theorem Rw_exc {x : Exc} {q : α → Mem → Prop} : Rw (.exc x M) q X = X x M := rfl
theorem Rw_err {q : α → Mem → Prop} : Rw .err q X = False := rfl
theorem Rw_bind {r : R α} {f : α → Mem → R β} {q : β → Mem → Prop} : Rw (r.bind f) q X = Rw r (fun v M => Rw (f v M) q X) X := by cases r <;> rfl
theorem Rw_mono {r : R α} {q q' : α → Mem → Prop} {X' : Exc → Mem → Prop} (h : Rw r q X) (i : ∀ v M, q v M → q' v M) (j : ∀ x M, X x M → X' x M) : Rw r q' X' := by
  cases r with
  | ok v M => exact i _ _ h
  | exc x M => exact j _ _ h
  | err => exact h
theorem Rw_get {r : R α} {q : α → Mem → Prop} (h : Rw r q noX) : ∃ v M, r = .ok v M ∧ q v M := by
  cases r with
  | ok v M => exact ⟨v, M, rfl, h⟩
  | exc x M => exact h.elim
  | err => exact h.elim
theorem Rw_okO {v : Option α} {q : α → Mem → Prop} : Rw (okO M v) q X = Ow v (fun v => q v M) := by cases v <;> rfl
theorem Ck_true {p : Prop} : Ck true p = p := rfl
theorem Ck_false {p : Prop} : Ck false p = False := rfl
theorem Tq_true {p q : Prop} : Tq (some true) p q = p := rfl
theorem Tq_false {p q : Prop} : Tq (some false) p q = q := rfl
theorem Tq_none {p q : Prop} : Tq none p q = False := rfl
theorem Tq_of {b : Bool} {p q : Prop} (h1 : b = true → p) (h2 : b = false → q) : Tq (some b) p q := by
  cases b
  · exact h2 rfl
  · exact h1 rfl
theorem Tq_dec {c : Prop} [Decidable c] {p q : Prop} (h1 : c → p) (h2 : ¬ c → q) : Tq (some (decide c)) p q := Tq_of (fun e => h1 (of_decide_eq_true e)) fun e => h2 (of_decide_eq_false e)
theorem Bw_some {b : Bool} {f : Bool → Prop} : Bw (some b) f = f b := rfl
theorem Bw_none {f : Bool → Prop} : Bw none f = False := rfl
theorem Ow_some {v : α} {f : α → Prop} : Ow (some v) f = f v := rfl
theorem Ow_none {f : α → Prop} : Ow (none : Option α) f = False := rfl
theorem Ov_some {v : Val} {f : Val → Prop} : Ov (some (some v)) f = f v := rfl
theorem Sq_nx {f : Sl → Mem → Prop} : Sq (.nx σ M) f F = f σ M := rfl
theorem Sq_rt {f : Sl → Mem → Prop} {v : Val} : Sq (.rt v σ M) f F = F (.rt v σ M) := rfl
theorem Sq_bk {f : Sl → Mem → Prop} : Sq (.bk σ M) f F = F (.bk σ M) := rfl
theorem Sq_ct {f : Sl → Mem → Prop} : Sq (.ct σ M) f F = F (.ct σ M) := rfl
theorem Sq_exc {f : Sl → Mem → Prop} {x : Exc} : Sq (.exc x σ M) f F = F (.exc x σ M) := rfl
theorem Rt_nx : Rt (.nx σ M) Q X = Q .non M := rfl
theorem Rt_rt {v : Val} : Rt (.rt v σ M) Q X = Ck v.isD (Q v M) := rfl
theorem Rt_exc {x : Exc} : Rt (.exc x σ M) Q X = X x M := rfl
theorem Fw_nx : Fw (.nx σ M) F = F (.nx σ M) := rfl
theorem Fw_rt {v : Val} : Fw (.rt v σ M) F = F (.rt v σ M) := rfl
theorem Fw_bk : Fw (.bk σ M) F = F (.bk σ M) := rfl
theorem Fw_ct : Fw (.ct σ M) F = F (.ct σ M) := rfl
theorem Fw_exc {x : Exc} : Fw (.exc x σ M) F = F (.exc x σ M) := rfl
theorem Fw_err : Fw .err F = False := rfl
theorem Fw_mono {r : Fl} {F' : Fl → Prop} (h : Fw r F) (i : ∀ r, F r → F' r) : Fw r F' := by cases r <;> first | exact i _ h | exact h
theorem Fw_fl {r : R α} {f : α → Mem → Fl} : Fw (r.fl σ f) F = Rw r (fun v M => Fw (f v M) F) (fun x M => F (.exc x σ M)) := by cases r <;> rfl
theorem Rw_nodata {vs : List Val} {r : R α} {q : α → Mem → Prop} : Rw (nodata vs r) q X = Ck (allD vs) (Rw r q X) := by
  unfold nodata Ck
  cases allD vs <;> rfl
theorem Fw_nodata' {vs : List Val} {r : Fl} : Fw (nodata' vs r) F = Ck (allD vs) (Fw r F) := by
  unfold nodata' Ck
  cases allD vs <;> rfl
/-! ### expressions -/
theorem Rw_var {i : Nat} : Rw (ev P o (.var i) σ M) Q X = Ov σ[i]? (fun v => Q v M) := by
  rw [ev]
  cases σ[i]? with
  | none => rfl
  | some v => cases v <;> rfl
theorem Rw_int {i : Int} : Rw (ev P o (.lit (.int i)) σ M) Q X = Q (.int i) M := by rw [ev] <;> rfl
theorem Rw_non : Rw (ev P o (.lit .non) σ M) Q X = Q .non M := by rw [ev] <;> rfl
theorem Rw_bl {b : Bool} : Rw (ev P o (.lit (.bl b)) σ M) Q X = Q (.bl b) M := by rw [ev] <;> rfl
theorem Rw_str {s : Str} : Rw (ev P o (.lit (.str s)) σ M) Q X = Q (.str s) M := by rw [ev] <;> rfl
theorem Rw_con {x : Nm} {v : Val} (h : P.con x = some v) : Rw (ev P o (.glo x) σ M) Q X = Q v M := by
  rw [ev, h]
  rfl
theorem Rw_fnv {x : Nm} (h : P.con x = none) (h2 : P.isFn x = true) : Rw (ev P o (.glo x) σ M) Q X = Q (.glo x) M := by
  rw [ev, h, h2]
  rfl
theorem Rw_bin {op : BOp} {a b : Ex} : Rw (ev P o (.bin op a b) σ M) Q X = Rw (ev P o a σ M) (fun x M => Rw (ev P o b σ M) (fun y M => Rw (binop op x y M) Q X) X) X := by rw [ev, Rw_bind]; simp only [Rw_bind]
theorem Rw_neg {a : Ex} : Rw (ev P o (.neg a) σ M) Q X = Rw (ev P o a σ M) (fun x M => match x with
    | .int i => Q (.int (-i)) M
    | _ => False) X := by
  rw [ev, Rw_bind]
  congr 1
  funext x M
  cases x <;> rfl
theorem Rw_not {a : Ex} : Rw (ev P o (.not a) σ M) Q X = Rw (ev P o a σ M) (fun x M => Bw (truthy M x) fun b => Q (.bl (!b)) M) X := by
  rw [ev, Rw_bind]
  congr 1
  funext x M
  cases truthy M x <;> rfl
theorem Rw_cmp {a : Ex} {r : List Cr} : Rw (ev P o (.cmp a r) σ M) Q X = Rw (ev P o a σ M) (fun x M => Rw (evCmp P o r x σ M) Q X) X := by rw [ev, Rw_bind]
theorem Rw_cmp1 {op : COp} {b : Ex} {x : Val} : Rw (evCmp P o [.mk op b] x σ M) Q X = Rw (ev P o b σ M) (fun y M => Bw (cmpop op x y M) fun k => Q (.bl k) M) X := by
  rw [evCmp, Rw_bind]
  congr 1
  funext y M
  cases cmpop op x y M <;> rfl
theorem Rw_cmp2 {op : COp} {b : Ex} {x : Val} {c : Cr} {cs : List Cr} : Rw (evCmp P o (.mk op b :: c :: cs) x σ M) Q X = Rw (ev P o b σ M) (fun y M => Tq (cmpop op x y M) (Rw (evCmp P o (c :: cs) y σ M) Q X) (Q (.bl false) M)) X := by
  rw [evCmp, Rw_bind]
  congr 1
  funext y M
  cases cmpop op x y M with
  | none => rfl
  | some k => cases k <;> rfl
theorem Rw_and {es : List Ex} : Rw (ev P o (.and es) σ M) Q X = Rw (evAnd P o es σ M) Q X := by rw [ev]
theorem Rw_and1 {e : Ex} : Rw (evAnd P o [e] σ M) Q X = Rw (ev P o e σ M) Q X := by
  rw [evAnd, Rw_bind]
  rfl
theorem Rw_and2 {e e2 : Ex} {es : List Ex} : Rw (evAnd P o (e :: e2 :: es) σ M) Q X = Rw (ev P o e σ M) (fun v M => Tq (truthy M v) (Rw (evAnd P o (e2 :: es) σ M) Q X) (Q v M)) X := by
  rw [evAnd, Rw_bind]
  congr 1
  funext v M
  show Rw (match truthy M v with | some true => _ | some false => _ | none => _) Q X = _
  cases truthy M v with
  | none => rfl
  | some k => cases k <;> rfl
theorem Rw_or {es : List Ex} : Rw (ev P o (.or es) σ M) Q X = Rw (evOr P o es σ M) Q X := by rw [ev]
theorem Rw_or1 {e : Ex} : Rw (evOr P o [e] σ M) Q X = Rw (ev P o e σ M) Q X := by
  rw [evOr, Rw_bind]
  rfl
theorem Rw_or2 {e e2 : Ex} {es : List Ex} : Rw (evOr P o (e :: e2 :: es) σ M) Q X = Rw (ev P o e σ M) (fun v M => Tq (truthy M v) (Q v M) (Rw (evOr P o (e2 :: es) σ M) Q X)) X := by
  rw [evOr, Rw_bind]
  congr 1
  funext v M
  show Rw (match truthy M v with | some true => _ | some false => _ | none => _) Q X = _
  cases truthy M v with
  | none => rfl
  | some k => cases k <;> rfl
theorem Rw_ite {c a b : Ex} : Rw (ev P o (.ite c a b) σ M) Q X = Rw (ev P o c σ M) (fun v M => Tq (truthy M v) (Rw (ev P o a σ M) Q X) (Rw (ev P o b σ M) Q X)) X := by
  rw [ev, Rw_bind]
  congr 1
  funext v M
  cases truthy M v with
  | none => rfl
  | some k => cases k <;> rfl
theorem Rw_ix {a i : Ex} : Rw (ev P o (.ix a i) σ M) Q X = Rw (ev P o a σ M) (fun x M => Rw (ev P o i σ M) (fun y M => Ow (item M x y) fun v => Q v M) X) X := by
  rw [ev, Rw_bind]
  simp only [Rw_bind, Rw_okO]
theorem Rw_sl {a : Ex} {lo hi : Option Ex} : Rw (ev P o (.sl a lo hi) σ M) Q X = Rw (ev P o a σ M) (fun x M => Rw (evOpt P o lo σ M) (fun l M => Rw (evOpt P o hi σ M) (fun h M => Rw (slice x l h M) Q X) X) X) X := by
  rw [ev, Rw_bind]
  simp only [Rw_bind]
theorem Rw_opt0 {q : Option Int → Mem → Prop} : Rw (evOpt P o none σ M) q X = q none M := by rw [evOpt] <;> rfl
theorem Rw_opt1 {e : Ex} {q : Option Int → Mem → Prop} : Rw (evOpt P o (some e) σ M) q X = Rw (ev P o e σ M) (fun v M => match v with
    | .int i => q (some i) M
    | _ => False) X := by
  rw [evOpt, Rw_bind]
  congr 1
  funext v M
  cases v <;> rfl
theorem Rw_tup {es : List Ex} : Rw (ev P o (.tup es) σ M) Q X = Rw (evs P o es σ M) (fun vs M => Ck (allD vs) (Q (.tup vs) M)) X := by
  rw [ev, Rw_bind]
  simp only [Rw_nodata, Rw_ok]
theorem Rw_lst {es : List Ex} : Rw (ev P o (.lst es) σ M) Q X = Rw (evs P o es σ M) (fun vs M => Ck (allD vs) (Q (.ref M.length) (M ++ [.lst vs]))) X := by
  rw [ev, Rw_bind]
  simp only [Rw_nodata, Rw_ok]
theorem Rw_evs0 {q : List Val → Mem → Prop} : Rw (evs P o [] σ M) q X = q [] M := by rw [evs] <;> rfl
theorem Rw_evs1 {e : Ex} {es : List Ex} {q : List Val → Mem → Prop} : Rw (evs P o (e :: es) σ M) q X = Rw (ev P o e σ M) (fun v M => Rw (evs P o es σ M) (fun vs M => q (v :: vs) M) X) X := by
  rw [evs, Rw_bind]
  simp only [Rw_bind, Rw_ok]
theorem Rw_as0 {q : List Val → Mem → Prop} : Rw (evAs P o [] σ M) q X = q [] M := by rw [evAs] <;> rfl
theorem Rw_as1 {e : Ex} {as : List Ag} {q : List Val → Mem → Prop} : Rw (evAs P o (.ex e :: as) σ M) q X = Rw (ev P o e σ M) (fun v M => Rw (evAs P o as σ M) (fun vs M => q (v :: vs) M) X) X := by
  rw [evAs, Rw_bind]
  simp only [Rw_bind, Rw_ok]
theorem Rw_as2 {ps : List Nat} {b : Ex} {as : List Ag} {q : List Val → Mem → Prop} : Rw (evAs P o (.lam ps b :: as) σ M) q X = Rw (evAs P o as σ M) (fun vs M => q (.clo ps b σ :: vs) M) X := by
  rw [evAs, Rw_bind]
  simp only [Rw_ok]
theorem Rw_call {x : Nm} {as : List Ag} : Rw (ev P o (.call x as) σ M) Q X = Rw (evAs P o as σ M) (fun vs M => Ck (cloXs vs) (Rw (o (.fn x) vs M) Q X)) X := by
  rw [ev, Rw_bind]
  congr 1
  funext vs M
  cases cloXs vs <;> rfl
theorem Rw_callK {x : Nm} {as : List Ex} : Rw (ev P o (.callK x as) σ M) Q X = Rw (evs P o as σ M) (fun vs M => Ck (allD vs) (Rw (o (.fn x) vs M) Q X)) X := by
  rw [ev, Rw_bind]
  simp only [Rw_nodata]
theorem Rw_app {i : Nat} {as : List Ag} : Rw (ev P o (.app i as) σ M) Q X = Ov σ[i]? (fun f => match f with
    | .glo x => Rw (evAs P o as σ M) (fun vs M => Ck (cloXs vs) (Rw (o (.fn x) vs M) Q X)) X
    | .clo ps b τ => Rw (evAs P o as σ M) (fun vs M => Ck (cloXs vs) (Rw (o (.clo ps b τ) vs M) Q X)) X
    | .lm n ps b => Rw (evAs P o as σ M) (fun vs M => Ck (cloXs vs) (Rw (o (.clo ps b (List.replicate n none)) vs M) Q X)) X
    | _ => False) := by
  rw [ev]
  cases σ[i]? with
  | none => rfl
  | some v =>
    cases v with
    | none => rfl
    | some f =>
      show Rw (match f with | .glo x => _ | .clo ps b τ => _ | .lm n ps b => _ | _ => _) Q X = _
      cases f <;> first | rfl | (simp only [Ov, Rw_bind]; congr 1; funext vs M; cases cloXs vs <;> rfl)
theorem Rw_bi {b : Bi} {as : List Ex} : Rw (ev P o (.bi b as) σ M) Q X = Rw (evs P o as σ M) (fun vs M => Rw (bi b vs M) Q X) X := by rw [ev, Rw_bind]
theorem Rw_me {m : Me} {a : Ex} {as : List Ex} : Rw (ev P o (.me m a as) σ M) Q X = Rw (ev P o a σ M) (fun x M => Ck (meRecv m x M) (Rw (evs P o as σ M) (fun vs M => Rw (me m x vs M) Q X) X)) X := by
  rw [ev, Rw_bind]
  congr 1
  funext x M
  cases meRecv m x M with
  | false => rfl
  | true => exact Rw_bind
theorem Rw_isi {a : Ex} {cs : List CN} : Rw (ev P o (.isi a cs) σ M) Q X = Rw (ev P o a σ M) (fun x M => Ck (cs.all (ownOk P)) (Bw (isAny M x cs) fun b => Q (.bl b) M)) X := by
  rw [ev, Rw_bind]
  congr 1
  funext x M
  cases cs.all (ownOk P) with
  | false => rfl
  | true =>
    show Rw (match isAny M x cs with | some b => _ | none => _) Q X = _
    cases isAny M x cs <;> rfl
theorem Rw_lm {n : Nat} {ps : List Nat} {b : Ex} : Rw (ev P o (.lm n ps b) σ M) Q X = Q (.lm n ps b) M := by rw [ev] <;> rfl
theorem Rw_comp {own : List Nat} {k : Gn} : Rw (ev P o (.comp own k) σ M) Q X = Ck (noXs σ) (Rw (evComp P o k own σ [] M) (fun vs M => Q (.ref M.length) (M ++ [.lst vs])) X) := by
  rw [ev]
  cases noXs σ with
  | false => rfl
  | true =>
    show Rw (R.bind _ _) Q X = _
    rw [Rw_bind]
    rfl
def Fo (P : Env) (f : Nm) (q : Val → Prop) : Ob → Prop
  | .ins c fs => Ck (P.isCls c && P.isFld f) (Ow (fs.lookup f) q)
  | _ => False
def Fq (P : Env) (f : Nm) (M : Mem) (q : Val → Prop) : Val → Prop
  | .ref n => Ow M[n]? (Fo P f q)
  | .exv c fs => Ck ((P.excFs c).isSome && P.isFld f) (Ow (fs.lookup f) q)
  | _ => False
theorem Rw_fldX {a : Ex} {f : Nm} : Rw (ev P o (.fld a f) σ M) Q X = Rw (ev P o a σ M) (fun x M => Fq P f M (fun v => Q v M) x) X := by
  rw [ev, Rw_bind]
  congr 1
  funext x M1
  cases x with
  | ref n =>
    show Rw (match M1[n]? with | some (.ins c fs) => (match P.isCls c && P.isFld f with | true => okO M1 (fs.lookup f) | false => R.err) | _ => R.err) Q X = Ow M1[n]? _
    cases M1[n]? with
    | none => rfl
    | some ob =>
      cases ob with
      | ins c fs =>
        show Rw (match P.isCls c && P.isFld f with | true => okO M1 (fs.lookup f) | false => R.err) Q X = Ck (P.isCls c && P.isFld f) _
        cases P.isCls c && P.isFld f with
        | false => rfl
        | true => exact Rw_okO
      | lst _ => rfl
      | dct _ => rfl
  | exv c fs =>
    show Rw (match (P.excFs c).isSome && P.isFld f with | true => okO M1 (fs.lookup f) | false => R.err) Q X = Ck ((P.excFs c).isSome && P.isFld f) _
    cases (P.excFs c).isSome && P.isFld f with
    | false => rfl
    | true => exact Rw_okO
  | _ => rfl
/-! ### what is walked -/
theorem Rw_irv {e : Ex} {q : It → Mem → Prop} : Rw (evIr P o (.val e) σ M) q X = Rw (ev P o e σ M) (fun v M => Ow (itOf M v) fun I => q I M) X := by
  rw [evIr, Rw_bind]
  simp only [Rw_okO]
theorem Rw_irr {es : List Ex} {q : It → Mem → Prop} : Rw (evIr P o (.range es) σ M) q X = Rw (evs P o es σ M) (fun vs M => Ow (rngOf vs) fun I => q I M) X := by
  rw [evIr, Rw_bind]
  simp only [Rw_okO]
theorem Rw_ire {e : Ex} {q : It → Mem → Prop} : Rw (evIr P o (.enum e) σ M) q X = Rw (ev P o e σ M) (fun v M => Ow (lsIt M v) fun I => q (.enum I) M) X := by
  rw [evIr, Rw_bind]
  congr 1
  funext v M
  cases lsIt M v <;> rfl
theorem Rw_irz {a b : Ex} {q : It → Mem → Prop} : Rw (evIr P o (.zip a b) σ M) q X = Rw (ev P o a σ M) (fun v M => Rw (ev P o b σ M) (fun w M => Rw (zipIt M v w) q X) X) X := by
  rw [evIr, Rw_bind]
  simp only [Rw_bind]
theorem Rw_ifs0 {q : Bool → Mem → Prop} : Rw (evIfs P o [] σ M) q X = q true M := by rw [evIfs] <;> rfl
theorem Rw_ifs1 {e : Ex} {es : List Ex} {q : Bool → Mem → Prop} : Rw (evIfs P o (e :: es) σ M) q X = Rw (ev P o e σ M) (fun v M => Tq (truthy M v) (Rw (evIfs P o es σ M) q X) (q false M)) X := by
  rw [evIfs, Rw_bind]
  congr 1
  funext v M
  cases truthy M v with
  | none => rfl
  | some k => cases k <;> rfl
theorem Rw_elt {e : Ex} {own : List Nat} {acc : List Val} {q : List Val → Mem → Prop} : Rw (evComp P o (.elt e) own σ acc M) q X = Rw (ev P o e σ M) (fun v M => Ck (v.isD && decide (acc.length < lineN)) (q (acc ++ [v]) M)) X := by
  rw [evComp, Rw_bind]
  congr 1
  funext v M
  cases v.isD && decide (acc.length < lineN) <;> rfl
/-- a comprehension's turn -/
def turnM (P : Env) (o : Oracle) (ifs : List Ex) (k : Gn) : Sl → List Val → Mem → R (List Val) := fun σ1 acc M => (evIfs P o ifs σ1 M).bind fun b M => match b with
  | true => evComp P o k k.slots σ1 acc M
  | false => .ok acc M
theorem Rw_loop {t : Pt} {it : Ir} {ifs : List Ex} {k : Gn} {own : List Nat} {acc : List Val} {q : List Val → Mem → Prop} : Rw (evComp P o (.loop t it ifs k) own σ acc M) q X = Rw (evIr P o it σ M) (fun I M => Rw (compW I t (wipe σ own) (turnM P o ifs k) fuel 0 acc M) q X) X := by
  rw [evComp, Rw_bind]
  rfl
theorem Rw_turn {ifs : List Ex} {k : Gn} {acc : List Val} {q : List Val → Mem → Prop} : Rw (turnM P o ifs k σ acc M) q X = Rw (evIfs P o ifs σ M) (fun b M => match b with
  | true => Rw (evComp P o k k.slots σ acc M) q X
  | false => q acc M) X := by
  unfold turnM
  rw [Rw_bind]
  congr 1
  funext b M
  cases b <;> rfl
/-! ### statements -/
theorem Fw_nil : Fw (xss P o [] σ M) F = F (.nx σ M) := by rw [xss] <;> rfl
theorem Fw_cons {s : St} {ss : List St} : Fw (xss P o (s :: ss) σ M) F = Fw (xs P o s σ M) (fun r => Sq r (fun σ M => Fw (xss P o ss σ M) F) F) := by
  rw [xss]
  cases xs P o s σ M <;> rfl
theorem Fw_asg {t : Tg} {e : Ex} : Fw (xs P o (.asg t e) σ M) F = Rw (ev P o e σ M) (fun v M => Rw (asg P o t v σ M) (fun σ M => F (.nx σ M)) noX) (fun x M => F (.exc x σ M)) := by
  rw [xs, Fw_fl]
  congr 1
  funext v M
  cases asg P o t v σ M <;> rfl
theorem Fw_retN : Fw (xs P o (.ret none) σ M) F = F (.rt .non σ M) := by rw [xs] <;> rfl
theorem Fw_ret {e : Ex} : Fw (xs P o (.ret (some e)) σ M) F = Rw (ev P o e σ M) (fun v M => F (.rt v σ M)) (fun x M => F (.exc x σ M)) := by
  rw [xs, Fw_fl]
  rfl
theorem Fw_ex {e : Ex} : Fw (xs P o (.ex e) σ M) F = Rw (ev P o e σ M) (fun _ M => F (.nx σ M)) (fun x M => F (.exc x σ M)) := by
  rw [xs, Fw_fl]
  rfl
theorem Fw_ifs {c : Ex} {a b : List St} : Fw (xs P o (.ifs c a b) σ M) F = Rw (ev P o c σ M) (fun v M => Tq (truthy M v) (Fw (xss P o a σ M) F) (Fw (xss P o b σ M) F)) (fun x M => F (.exc x σ M)) := by
  rw [xs, Fw_fl]
  unfold evT
  rw [Rw_bind]
  congr 1
  funext v M
  rw [Rw_okO]
  cases truthy M v with
  | none => rfl
  | some k => cases k <;> rfl
theorem Fw_for {t : Pt} {it : Ir} {b : List St} : Fw (xs P o (.for t it b) σ M) F = Rw (evIr P o it σ M) (fun I M => Fw (forW I t (fun σ M => xss P o b σ M) fuel 0 σ M) F) (fun x M => F (.exc x σ M)) := by rw [xs, Fw_fl]
theorem Fw_whl {c : Ex} {b : List St} : Fw (xs P o (.whl c b) σ M) F = Fw (whlW (fun σ M => evT P o c σ M) (fun σ M => xss P o b σ M) fuel σ M) F := by rw [xs]
theorem Rw_evT {c : Ex} {q : Bool → Mem → Prop} : Rw (evT P o c σ M) q X = Rw (ev P o c σ M) (fun v M => Bw (truthy M v) fun b => q b M) X := by
  unfold evT
  rw [Rw_bind]
  congr 1
  funext v M
  cases truthy M v <;> rfl
theorem Fw_rse {c : Nm} {as : List Ex} {ns : List Nm} (h : P.excFs c = some ns) (h2 : ns.isEmpty = false) : Fw (xs P o (.rse c as) σ M) F = Rw (evs P o as σ M) (fun vs M => Ck (allD vs) (Ck (decide (ns.length = vs.length)) (F (.exc ⟨c, (ns.zip vs).reverse⟩ σ M)))) (fun x M => F (.exc x σ M)) := by
  rw [xs, h]
  show Fw (match ns.isEmpty with | true => _ | false => _) F = _
  rw [h2]
  show Fw (R.fl _ _ _) F = _
  rw [Fw_fl]
  congr 1
  funext vs M
  rw [Fw_nodata']
  congr 1
  cases decide (ns.length = vs.length) <;> rfl
theorem Fw_pass : Fw (xs P o .pass σ M) F = F (.nx σ M) := by rw [xs] <;> rfl
theorem Fw_brk : Fw (xs P o .brk σ M) F = F (.bk σ M) := by rw [xs] <;> rfl
theorem Fw_cnt : Fw (xs P o .cnt σ M) F = F (.ct σ M) := by rw [xs] <;> rfl
def Tr (r : Fl) (f : Exc → Sl → Mem → Prop) (F : Fl → Prop) : Prop := match r with
  | .exc x σ M => f x σ M
  | r => F r
theorem Tr_nx {f : Exc → Sl → Mem → Prop} : Tr (.nx σ M) f F = F (.nx σ M) := rfl
theorem Tr_rt {f : Exc → Sl → Mem → Prop} {v : Val} : Tr (.rt v σ M) f F = F (.rt v σ M) := rfl
theorem Tr_exc {f : Exc → Sl → Mem → Prop} {x : Exc} : Tr (.exc x σ M) f F = f x σ M := rfl
theorem Fw_try {b : List St} {hs : List (Nm × Option Nat × List St)} : Fw (xs P o (.try b hs) σ M) F = Ck (tryOk P σ hs) (Fw (xss P o b σ M) (fun r => Ck (endX P r) (Tr r (fun x σ M => Fw (hnd P o hs x σ M) F) F))) := by
  rw [xs]
  cases tryOk P σ hs with
  | false => rfl
  | true =>
    show Fw (tryEnd P (xss P o b σ M) _) F = Fw _ _
    generalize xss P o b σ M = r
    cases r with
    | err => rfl
    | nx σ1 M1 => show Fw (match endX P (.nx σ1 M1) with | true => Fl.nx σ1 M1 | false => .err) F = Ck (endX P (.nx σ1 M1)) _; cases endX P (.nx σ1 M1) <;> rfl
    | bk σ1 M1 => show Fw (match endX P (.bk σ1 M1) with | true => Fl.bk σ1 M1 | false => .err) F = Ck (endX P (.bk σ1 M1)) _; cases endX P (.bk σ1 M1) <;> rfl
    | ct σ1 M1 => show Fw (match endX P (.ct σ1 M1) with | true => Fl.ct σ1 M1 | false => .err) F = Ck (endX P (.ct σ1 M1)) _; cases endX P (.ct σ1 M1) <;> rfl
    | rt v σ1 M1 => show Fw (match endX P (.rt v σ1 M1) with | true => Fl.rt v σ1 M1 | false => .err) F = Ck (endX P (.rt v σ1 M1)) _; cases endX P (.rt v σ1 M1) <;> rfl
    | exc x σ1 M1 => show Fw (match endX P (.exc x σ1 M1) with | true => hnd P o hs x σ1 M1 | false => .err) F = Ck (endX P (.exc x σ1 M1)) _; cases endX P (.exc x σ1 M1) <;> rfl
theorem Rw_asgv {i : Nat} {v : Val} {q : Sl → Mem → Prop} : Rw (asg P o (.var i) v σ M) q X = q (σ.set i (some v)) M := by rw [asg] <;> rfl
theorem Rw_asgt {ts : List Tg} {xs : List Val} {q : Sl → Mem → Prop} : Rw (asg P o (.tup ts) (.tup xs) σ M) q X = Rw (asgs P o ts xs σ M) q X := by rw [asg] <;> rfl
theorem Rw_asgs0 {q : Sl → Mem → Prop} : Rw (asgs P o [] [] σ M) q X = q σ M := by rw [asgs] <;> rfl
theorem Rw_asgs1 {t : Tg} {ts : List Tg} {v : Val} {vs : List Val} {q : Sl → Mem → Prop} : Rw (asgs P o (t :: ts) (v :: vs) σ M) q X = Rw (asg P o t v σ M) (fun σ M => Rw (asgs P o ts vs σ M) q X) X := by rw [asgs, Rw_bind]
theorem Rw_asgi {a i : Ex} {v : Val} {q : Sl → Mem → Prop} : Rw (asg P o (.sub a i) v σ M) q X = Rw (ev P o a σ M) (fun x M => Rw (ev P o i σ M) (fun y M => Ow (setIx x y v M) fun M => q σ M) X) X := by
  rw [asg, Rw_bind]
  congr 1
  funext x M
  rw [Rw_bind]
  congr 1
  funext y M
  cases setIx x y v M <;> rfl
/-! ### runs -/
theorem Rw_runB {d : Fn} {us : List Val} : Rw (runB P o d us M) Q X = Ck (decide (us.length = d.np)) (Fw (xss P o d.body (us.map some ++ List.replicate (d.n - d.np) none) M) (fun r => Rt r Q X)) := by
  unfold runB
  cases decide (us.length = d.np) with
  | false => rfl
  | true =>
    show Rw (match xss P o d.body (us.map some ++ List.replicate (d.n - d.np) none) M with | .nx _ M1 => _ | .rt v _ M1 => _ | .exc x _ M1 => _ | _ => _) Q X = Fw (xss P o d.body (us.map some ++ List.replicate (d.n - d.np) none) M) _
    cases xss P o d.body (us.map some ++ List.replicate (d.n - d.np) none) M <;> first | rfl | skip
    rename_i v _ _
    show Rw (match v.isD with | true => _ | false => _) Q X = Ck v.isD _
    cases v.isD <;> rfl
theorem Rw_runC {ps : List Nat} {b : Ex} {vs : List Val} : Rw (runC P o ps b σ vs M) Q X = Ck (decide (ps.length = vs.length)) (Rw (ev P o b (setAll σ ps vs) M) (fun v M => Ck v.isD (Q v M)) X) := by
  unfold runC
  cases decide (ps.length = vs.length) with
  | false => rfl
  | true =>
    show Rw (R.bind _ _) Q X = Rw _ _ _
    rw [Rw_bind]
    congr 1
    funext v M
    cases v.isD <;> rfl
theorem Rw_fn {p : PL} {k : Nat} {x : Nm} {d : Fn} {vs : List Val} (h : p.prog.fn x = some d) : Rw (run p.prog (k + 1) (.fn x) vs M) Q X = Rw (runB p.env (run p.prog k) d (fill d vs) M) Q X := by
  show Rw (match p.prog.fn x with | some d => _ | none => _) Q X = _
  rw [h]
  rfl
theorem Rw_clo {p : PL} {k : Nat} {ps : List Nat} {b : Ex} {vs : List Val} : Rw (run p.prog (k + 1) (.clo ps b σ) vs M) Q X = Ck (decide (ps.length = vs.length)) (Rw (ev p.env (run p.prog k) b (setAll σ ps vs) M) (fun v M => Ck v.isD (Q v M)) X) := Rw_runC
end
end Mi
end
section
set_option Elab.async false
set_option linter.all false
set_option maxRecDepth 10000
/-! M1: values and loops in the logic. -/
namespace Mi
section
variable {α β : Type} {P : Env} {o : Oracle} {σ : Sl} {M : Mem} {Q : Val → Mem → Prop} {X : Exc → Mem → Prop} {F : Fl → Prop}
theorem b_add {i j : Int} : Rw (binop .add (.int i) (.int j) M) Q X = Q (.int (i + j)) M := rfl
theorem b_sub {i j : Int} : Rw (binop .sub (.int i) (.int j) M) Q X = Q (.int (i - j)) M := rfl
theorem b_mul {i j : Int} : Rw (binop .mul (.int i) (.int j) M) Q X = Ck (mulOk i j) (Q (.int (i * j)) M) := by
  show Rw (match mulOk i j with | true => _ | false => _) Q X = _
  cases mulOk i j <;> rfl
theorem b_fdiv {i j : Int} : Rw (binop .fdiv (.int i) (.int j) M) Q X = Ck (divOk j) (Q (.int (i / j)) M) := by
  show Rw (match divOk j with | true => _ | false => _) Q X = _
  cases divOk j <;> rfl
theorem b_mod {i j : Int} : Rw (binop .mod (.int i) (.int j) M) Q X = Ck (decide (0 < j)) (Q (.int (i % j)) M) := by
  show Rw (match decide (0 < j) with | true => _ | false => _) Q X = _
  cases decide (0 < j) <;> rfl
theorem b_pow {i j : Int} : Rw (binop .pow (.int i) (.int j) M) Q X = Ck (powOk i j) (Q (.int (i ^ j.toNat)) M) := by
  show Rw (match powOk i j with | true => _ | false => _) Q X = _
  cases powOk i j <;> rfl
theorem b_lst {a b : Nat} {xs ys : List Val} (h1 : lsOf M a = some xs) (h2 : lsOf M b = some ys) : Rw (binop .add (.ref a) (.ref b) M) Q X = Ck (decide (xs.length + ys.length ≤ lineN)) (Q (.ref M.length) (M ++ [.lst (xs ++ ys)])) := by
  show Rw (match lsOf M a, lsOf M b with | some xs, some ys => _ | _, _ => _) Q X = _
  rw [h1, h2]
  show Rw (match decide (xs.length + ys.length ≤ lineN) with | true => _ | false => _) Q X = _
  cases decide (xs.length + ys.length ≤ lineN) <;> rfl
theorem b_str {a b : Str} : Rw (binop .add (.str a) (.str b) M) Q X = Ck (decide (a.length + b.length ≤ lineN)) (Q (.str (a ++ b)) M) := by
  show Rw (match decide (a.length + b.length ≤ lineN) with | true => _ | false => _) Q X = _
  cases decide (a.length + b.length ≤ lineN) <;> rfl
theorem b_tup {a b : List Val} : Rw (binop .add (.tup a) (.tup b) M) Q X = Ck (decide (a.length + b.length ≤ lineN)) (Q (.tup (a ++ b)) M) := by
  show Rw (match decide (a.length + b.length ≤ lineN) with | true => _ | false => _) Q X = _
  cases decide (a.length + b.length ≤ lineN) <;> rfl
theorem bq_abs {i : Int} : Rw (bi .abs [.int i] M) Q X = Q (.int (if i < 0 then -i else i)) M := rfl
theorem bq_int {i : Int} : Rw (bi .int [.int i] M) Q X = Q (.int i) M := rfl
theorem bi_intb {b : Bool} : Rw (bi .int [.bl b] M) Q X = Q (.int (if b then 1 else 0)) M := rfl
theorem bi_lent {vs : List Val} : Rw (bi .len [.tup vs] M) Q X = Q (.int vs.length) M := rfl
theorem bi_lenr {n : Nat} {vs : List Val} (h : lsOf M n = some vs) : Rw (bi .len [.ref n] M) Q X = Q (.int vs.length) M := by
  show Rw (match lsOf M n with | some xs => _ | none => _) Q X = _
  rw [h]
  rfl
theorem t_bl {b : Bool} : truthy M (.bl b) = some b := rfl
theorem t_int {i : Int} : truthy M (.int i) = some (i != 0) := rfl
theorem t_non : truthy M .non = some false := rfl
theorem c_lt {i j : Int} : cmpop .lt (.int i) (.int j) M = some (decide (i < j)) := rfl
theorem c_le {i j : Int} : cmpop .le (.int i) (.int j) M = some (decide (i ≤ j)) := rfl
theorem c_gt {i j : Int} : cmpop .gt (.int i) (.int j) M = some (decide (j < i)) := rfl
theorem c_ge {i j : Int} : cmpop .ge (.int i) (.int j) M = some (decide (j ≤ i)) := rfl
theorem c_eq {x y : Val} : cmpop .eq x y M = vEq M x y := rfl
theorem c_ne {x y : Val} : cmpop .ne x y M = (match vEq M x y with | some b => some (!b) | none => none) := rfl
theorem c_is {x y : Val} : cmpop .is x y M = isV x y := rfl
theorem c_isnot {x y : Val} : cmpop .isnot x y M = (match isV x y with | some b => some (!b) | none => none) := rfl
theorem vEq_int {i j : Int} : vEq M (.int i) (.int j) = some (decide (i = j)) := by
  show some (PySem.PyData.eqv (.int i) (.int j)) = _
  unfold PySem.PyData.eqv
  congr 1
theorem vEq_strq {a b : Str} : vEq M (.str a) (.str b) = some (decide (a = b)) := rfl
theorem c_eqi {i j : Int} : cmpop .eq (.int i) (.int j) M = some (decide (i = j)) := by rw [c_eq, vEq_int]
theorem c_nei {i j : Int} : cmpop .ne (.int i) (.int j) M = some (!decide (i = j)) := by
  rw [c_ne, vEq_int]
theorem c_eqs {i j : Str} : cmpop .eq (.str i) (.str j) M = some (decide (i = j)) := rfl
theorem c_nes {i j : Str} : cmpop .ne (.str i) (.str j) M = some (!decide (i = j)) := rfl
/-! ### kinds -/
theorem isD_non : Val.isD .non = true := rfl
theorem isX_non : Val.isX .non = false := rfl
theorem cloX_non : cloX .non = true := rfl
theorem isD_bl {b : Bool} : Val.isD (.bl b) = true := rfl
theorem isX_bl {b : Bool} : Val.isX (.bl b) = false := rfl
theorem cloX_bl {b : Bool} : cloX (.bl b) = true := rfl
theorem isD_int {i : Int} : Val.isD (.int i) = true := rfl
theorem isX_int {i : Int} : Val.isX (.int i) = false := rfl
theorem cloX_int {i : Int} : cloX (.int i) = true := rfl
theorem isD_str {s : Str} : Val.isD (.str s) = true := rfl
theorem isX_str {s : Str} : Val.isX (.str s) = false := rfl
theorem cloX_str {s : Str} : cloX (.str s) = true := rfl
theorem isD_tup {vs : List Val} : Val.isD (.tup vs) = true := rfl
theorem isX_tup {vs : List Val} : Val.isX (.tup vs) = false := rfl
theorem cloX_tup {vs : List Val} : cloX (.tup vs) = true := rfl
theorem isD_rl {vs : List Val} : Val.isD (.rl vs) = true := rfl
theorem isX_rl {vs : List Val} : Val.isX (.rl vs) = false := rfl
theorem cloX_rl {vs : List Val} : cloX (.rl vs) = true := rfl
theorem isD_ref {n : Nat} : Val.isD (.ref n) = true := rfl
theorem isX_ref {n : Nat} : Val.isX (.ref n) = false := rfl
theorem cloX_ref {n : Nat} : cloX (.ref n) = true := rfl
theorem isD_glo {x : Nm} : Val.isD (.glo x) = true := rfl
theorem isX_glo {x : Nm} : Val.isX (.glo x) = false := rfl
theorem cloX_glo {x : Nm} : cloX (.glo x) = true := rfl
theorem isD_lm {n : Nat} {ps : List Nat} {b : Ex} : Val.isD (.lm n ps b) = true := rfl
theorem isX_lm {n : Nat} {ps : List Nat} {b : Ex} : Val.isX (.lm n ps b) = false := rfl
theorem cloX_lm {n : Nat} {ps : List Nat} {b : Ex} : cloX (.lm n ps b) = true := rfl
theorem isX_clo {ps : List Nat} {b : Ex} {σ : Sl} : Val.isX (.clo ps b σ) = false := rfl
theorem cloX_clo {ps : List Nat} {b : Ex} {σ : Sl} : cloX (.clo ps b σ) = noXs σ := rfl
theorem noXs_nil : noXs [] = true := rfl
theorem noXs_none {σ : Sl} : noXs (none :: σ) = noXs σ := rfl
theorem noXs_some {v : Val} {σ : Sl} : noXs (some v :: σ) = (!v.isX && noXs σ) := rfl
/-! ### data -/
theorem optAll_ints (M : Mem) (f : Nat) : ∀ is : List Int, optAll (vdata M (f + 1)) (is.map Val.int) = some (is.map PySem.PyData.int)
  | [] => rfl
  | i :: is => by
    show optAll (vdata M (f + 1)) (.int i :: is.map Val.int) = _
    unfold optAll
    rw [optAll_ints M f is]
    rfl
theorem vdata_lst {n f : Nat} {xs : List Val} (h : M[n]? = some (.lst xs)) : vdata M (f + 1) (.ref n) = (match optAll (vdata M f) xs with | some ds => some (.list ds) | none => none) := by
  show (match M[n]? with | some (.lst xs) => (match optAll (vdata M f) xs with | some ds => some (PySem.PyData.list ds) | none => none) | _ => none) = _
  rw [h]
theorem can_ints : ∀ is : List Int, PySem.PyData.canLayAll0 (is.map PySem.PyData.int) = true
  | [] => rfl
  | i :: is => by
    show (PySem.PyData.canLay0 (.int i) && PySem.PyData.canLayAll0 (is.map PySem.PyData.int)) = true
    rw [can_ints is]
    rfl
/-- a list of numbers beside the empty list -/
theorem vEq_empty {a b : Nat} {is : List Int} (h1 : M[a]? = some (.lst (is.map Val.int))) (h2 : M[b]? = some (.lst [])) : vEq M (.ref a) (.ref b) = some is.isEmpty := by
  show (match vdata M 60 (.ref a), vdata M 60 (.ref b) with
    | some d, some e => (match d.canLay0 && e.canLay0 with | true => some (PySem.PyData.eqv d e) | false => none)
    | _, _ => none) = _
  rw [vdata_lst h1, vdata_lst h2, optAll_ints M 58]
  show (match PySem.PyData.canLayAll0 (is.map PySem.PyData.int) && PySem.PyData.canLayAll0 [] with | true => some (PySem.PyData.eqv (.list (is.map .int)) (.list [])) | false => none) = _
  rw [can_ints is]
  show some (PySem.PyData.eqv (.list (is.map .int)) (.list [])) = _
  cases is <;> rfl
/-! ### loops -/
def Lp (r : Fl) (K : Sl → Mem → Prop) (F : Fl → Prop) : Prop := match r with
  | .nx σ M => K σ M
  | .ct σ M => K σ M
  | .bk σ M => F (.nx σ M)
  | .err => False
  | r => F r
theorem Lp_nx {K : Sl → Mem → Prop} : Lp (.nx σ M) K F = K σ M := rfl
theorem Lp_ct {K : Sl → Mem → Prop} : Lp (.ct σ M) K F = K σ M := rfl
theorem Lp_bk {K : Sl → Mem → Prop} : Lp (.bk σ M) K F = F (.nx σ M) := rfl
theorem Lp_rt {K : Sl → Mem → Prop} {v : Val} : Lp (.rt v σ M) K F = F (.rt v σ M) := rfl
theorem Lp_exc {K : Sl → Mem → Prop} {x : Exc} : Lp (.exc x σ M) K F = F (.exc x σ M) := rfl
theorem forW_inv {I : It} {t : Pt} {b : Sl → Mem → Fl} (n : Nat) (Inv : Nat → Sl → Mem → Prop)
    (step : ∀ i σ M, i < n → Inv i σ M → ∃ v σ1, I.item M i = some (some v) ∧ t.put v σ = some σ1 ∧ Fw (b σ1 M) (fun r => Lp r (Inv (i + 1)) F))
    (stop : ∀ σ M, Inv n σ M → I.item M n = some none ∧ F (.nx σ M)) : ∀ (f i : Nat) (σ : Sl) (M : Mem), n - i < f → i ≤ n → Inv i σ M → Fw (forW I t b f i σ M) F := by
  intro f
  induction f with
  | zero => intro i σ M h; omega
  | succ f ih =>
    intro i σ M h hi hI
    rw [forW]
    by_cases e : i = n
    · subst e
      obtain ⟨h1, h2⟩ := stop σ M hI
      rw [h1]
      exact h2
    · obtain ⟨v, σ1, h1, h2, h3⟩ := step i σ M (by omega) hI
      rw [h1]
      dsimp only
      rw [h2]
      dsimp only
      cases q : b σ1 M with
      | nx σ2 M2 => rw [q] at h3; exact ih (i + 1) σ2 M2 (by omega) (by omega) h3
      | ct σ2 M2 => rw [q] at h3; exact ih (i + 1) σ2 M2 (by omega) (by omega) h3
      | bk σ2 M2 => rw [q] at h3; exact h3
      | rt v2 σ2 M2 => rw [q] at h3; exact h3
      | exc x σ2 M2 => rw [q] at h3; exact h3
      | err => rw [q] at h3; exact h3.elim
theorem for_inv {I : It} {t : Pt} {b : Sl → Mem → Fl} (n : Nat) (Inv : Nat → Sl → Mem → Prop) (hn : n < 10 ^ 100) (h0 : Inv 0 σ M)
    (step : ∀ i σ M, i < n → Inv i σ M → ∃ v σ1, I.item M i = some (some v) ∧ t.put v σ = some σ1 ∧ Fw (b σ1 M) (fun r => Lp r (Inv (i + 1)) F))
    (stop : ∀ σ M, Inv n σ M → I.item M n = some none ∧ F (.nx σ M)) : Fw (forW I t b fuel 0 σ M) F :=
  forW_inv n Inv step stop fuel 0 σ M (by
    have : (10 : Nat) ^ 100 < fuel := by decide
    omega) (Nat.zero_le _) h0
theorem whlW_inv {c : Sl → Mem → R Bool} {b : Sl → Mem → Fl} (Inv : Nat → Sl → Mem → Prop)
    (step : ∀ m σ M, Inv m σ M → Rw (c σ M) (fun k M1 => match k with
      | true => Fw (b σ M1) (fun r => Lp r (fun σ M => ∃ m' < m, Inv m' σ M) F)
      | false => F (.nx σ M1)) (fun x M1 => F (.exc x σ M1))) : ∀ (f m : Nat) (σ : Sl) (M : Mem), m < f → Inv m σ M → Fw (whlW c b f σ M) F := by
  intro f
  induction f with
  | zero => intro m σ M h; omega
  | succ f ih =>
    intro m σ M h hI
    have st := step m σ M hI
    rw [whlW]
    cases q : c σ M with
    | err => rw [q] at st; exact st.elim
    | exc x M1 => rw [q] at st; exact st
    | ok k M1 =>
      rw [q] at st
      cases k with
      | false => exact st
      | true =>
        dsimp only
        have st : Fw (b σ M1) (fun r => Lp r (fun σ M => ∃ m' < m, Inv m' σ M) F) := st
        cases q2 : b σ M1 with
        | nx σ2 M2 => rw [q2] at st; obtain ⟨m', l, i⟩ := st; exact ih m' σ2 M2 (by omega) i
        | ct σ2 M2 => rw [q2] at st; obtain ⟨m', l, i⟩ := st; exact ih m' σ2 M2 (by omega) i
        | bk σ2 M2 => rw [q2] at st; exact st
        | rt v2 σ2 M2 => rw [q2] at st; exact st
        | exc x σ2 M2 => rw [q2] at st; exact st
        | err => rw [q2] at st; exact st.elim
theorem whl_inv {c : Sl → Mem → R Bool} {b : Sl → Mem → Fl} (Inv : Nat → Sl → Mem → Prop) (m : Nat) (hm : m < 10 ^ 100) (h0 : Inv m σ M)
    (step : ∀ m σ M, Inv m σ M → Rw (c σ M) (fun k M1 => match k with
      | true => Fw (b σ M1) (fun r => Lp r (fun σ M => ∃ m' < m, Inv m' σ M) F)
      | false => F (.nx σ M1)) (fun x M1 => F (.exc x σ M1))) : Fw (whlW c b fuel σ M) F :=
  whlW_inv Inv step fuel m σ M (by
    have : (10 : Nat) ^ 100 < fuel := by decide
    omega) h0
theorem compW_inv {I : It} {t : Pt} {turn : Sl → List Val → Mem → R (List Val)} {q : List Val → Mem → Prop} (n : Nat) (Inv : Nat → List Val → Mem → Prop)
    (step : ∀ i acc M, i < n → Inv i acc M → ∃ v σ1, I.item M i = some (some v) ∧ t.put v σ = some σ1 ∧ Rw (turn σ1 acc M) (Inv (i + 1)) noX)
    (stop : ∀ acc M, Inv n acc M → I.item M n = some none ∧ q acc M) : ∀ (f i : Nat) (acc : List Val) (M : Mem), n - i < f → i ≤ n → Inv i acc M → Rw (compW I t σ turn f i acc M) q X := by
  intro f
  induction f with
  | zero => intro i acc M h; omega
  | succ f ih =>
    intro i acc M h hi hI
    rw [compW]
    by_cases e : i = n
    · subst e
      obtain ⟨h1, h2⟩ := stop acc M hI
      rw [h1]
      exact h2
    · obtain ⟨v, σ1, h1, h2, h3⟩ := step i acc M (by omega) hI
      rw [h1]
      dsimp only
      rw [h2]
      dsimp only
      obtain ⟨acc1, M1, e1, e2⟩ := Rw_get h3
      rw [e1]
      exact ih (i + 1) acc1 M1 (by omega) (by omega) e2
theorem comp_inv {I : It} {t : Pt} {turn : Sl → List Val → Mem → R (List Val)} {q : List Val → Mem → Prop} (n : Nat) (Inv : Nat → List Val → Mem → Prop) (hn : n < 10 ^ 100) (h0 : Inv 0 [] M)
    (step : ∀ i acc M, i < n → Inv i acc M → ∃ v σ1, I.item M i = some (some v) ∧ t.put v σ = some σ1 ∧ Rw (turn σ1 acc M) (Inv (i + 1)) noX)
    (stop : ∀ acc M, Inv n acc M → I.item M n = some none ∧ q acc M) : Rw (compW I t σ turn fuel 0 [] M) q X :=
  compW_inv n Inv step stop fuel 0 [] M (by
    have : (10 : Nat) ^ 100 < fuel := by decide
    omega) (Nat.zero_le _) h0
/-! ### sizes -/
theorem log2_lt {n k : Nat} (h : n < 2 ^ k) (hk : 0 < k) : n.log2 < k := by
  by_cases e : n = 0
  · subst e
    simpa using hk
  · exact (Nat.log2_lt e).mpr h
theorem mulOk_of {i j : Int} (a b : Nat) (h1 : i.natAbs < 2 ^ a) (h2 : j.natAbs < 2 ^ b) (ha : 0 < a := by decide) (hb : 0 < b := by decide) (h : a + b < 100000000 := by decide) : mulOk i j = true := by
  unfold mulOk
  have := log2_lt h1 ha
  have := log2_lt h2 hb
  exact decide_eq_true (by omega)
theorem divOk_of {j : Int} (a : Nat) (h0 : 0 < j) (h1 : j.natAbs < 2 ^ a) (ha : 0 < a := by decide) (h : a ≤ 9000 := by decide) : divOk j = true := by
  unfold divOk
  have := log2_lt h1 ha
  rw [decide_eq_true h0, decide_eq_true (show j.natAbs.log2 < 9000 by omega)]
  rfl
/-! ### the memory grows -/
def Ext (M M' : Mem) : Prop := ∃ G, M' = M ++ G
theorem Ext.refl (M : Mem) : Ext M M := ⟨[], (List.append_nil M).symm⟩
theorem Ext.trans {M M1 M2 : Mem} (a : Ext M M1) (b : Ext M1 M2) : Ext M M2 := by
  obtain ⟨G, rfl⟩ := a
  obtain ⟨G', rfl⟩ := b
  exact ⟨G ++ G', List.append_assoc ..⟩
theorem Ext.one (M : Mem) (ob : Ob) : Ext M (M ++ [ob]) := ⟨[ob], rfl⟩
theorem Ext.get {M M' : Mem} (a : Ext M M') {n : Nat} {ob : Ob} (h : M[n]? = some ob) : M'[n]? = some ob := by
  obtain ⟨G, rfl⟩ := a
  rw [List.getElem?_append_left]
  · exact h
  · exact (List.getElem?_eq_some_iff.mp h).1
theorem Ext.len {M M' : Mem} (a : Ext M M') : M.length ≤ M'.length := by
  obtain ⟨G, rfl⟩ := a
  simp
theorem get_new (M : Mem) (ob : Ob) : (M ++ [ob])[M.length]? = some ob := by simp
theorem lsOf_of {n : Nat} {xs : List Val} (h : M[n]? = some (.lst xs)) : lsOf M n = some xs := by
  unfold lsOf
  rw [h]
end
end Mi
end
section
set_option Elab.async false
set_option linter.all false
set_option maxRecDepth 10000
/-! M2: functions that many laws share. -/
namespace Mi
local macro_rules | `(tactic| walk_at "mi") => `(tactic| simp only [Fw_cons, Fw_nil, Fw_asg, Fw_retN, Fw_ret, Fw_ex, Fw_ifs, Fw_for, Fw_whl, Fw_pass, Fw_brk, Fw_cnt, Fw_try, Fw_nx, Fw_rt, Fw_exc, Sq_nx, Sq_rt, Sq_exc, Sq_bk, Sq_ct, Tr_nx, Tr_rt, Tr_exc, Rt_nx, Rt_rt, Rt_exc, Lp_nx, Lp_ct, Lp_bk, Lp_rt, Lp_exc,
  Rw_ok, Rw_exc, Rw_err, Rw_var, Rw_int, Rw_non, Rw_bl, Rw_str, Rw_bin, Rw_neg, Rw_not, Rw_cmp, Rw_cmp1, Rw_cmp2, Rw_and, Rw_and1, Rw_and2, Rw_or, Rw_or1, Rw_or2, Rw_ite, Rw_ix, Rw_sl, Rw_opt0, Rw_opt1, Rw_tup, Rw_lst, Rw_evs0, Rw_evs1, Rw_as0, Rw_as1, Rw_as2, Rw_call, Rw_callK, Rw_app, Rw_bi, Rw_me, Rw_isi, Rw_lm, Rw_comp, Rw_fldX, Rw_irv, Rw_irr, Rw_ire, Rw_irz, Rw_ifs0, Rw_ifs1, Rw_elt, Rw_loop, Rw_turn, Rw_evT, Rw_asgv, Rw_asgt, Rw_asgs0, Rw_asgs1, Rw_asgi,
  Ck_true, Ck_false, Tq_true, Tq_false, Bw_some, Ow_some, Ov_some, b_add, b_sub, b_mul, b_fdiv, b_mod, b_pow, b_str, b_tup, bq_abs, bq_int, bi_intb, bi_lent, t_bl, t_int, t_non, c_lt, c_le, c_gt, c_ge, c_eqi, c_nei, c_eqs, c_nes, c_is, c_isnot,
  List.getElem?_cons_zero, List.getElem?_cons_succ, List.set_cons_zero, List.set_cons_succ, List.map_cons, List.map_nil, List.replicate_succ, List.replicate_zero, List.cons_append, List.nil_append, List.length_cons, List.length_nil, allD, isD_non, isD_bl, isD_int, isD_str, isD_tup, isD_rl, isD_ref, isD_glo, isD_lm, cloXs, cloX_clo, cloX_non, cloX_bl, cloX_int, cloX_str, cloX_tup, cloX_rl, cloX_ref, cloX_glo, cloX_lm, isX_non, isX_bl, isX_int, isX_str, isX_tup, isX_rl, isX_ref, isX_glo, isX_lm, isX_clo, noXs_nil, noXs_none, noXs_some, Bool.and_true, Bool.true_and, Bool.not_false, Bool.not_true, Bool.and_false, Bool.false_and, isAny, isCN, isV, decide_true, decide_false, List.all_cons, List.all_nil, ownOk, Int.reduceLT, Int.reduceLE, Int.reduceNeg, Int.reduceAdd, Int.reduceSub, Int.reduceMul, Int.reduceDiv, Int.reduceMod, Nat.reduceAdd])
def gNow : Fn := { np := 2, n := 2, dfl := [], body := [.whl (.cmp (.var 1) [.mk .ne (.lit (.int 0))]) [.asg (.tup [.var 0, .var 1]) (.tup [.var 1, .bin .sub (.var 0) (.bin .mul (.bin .fdiv (.var 0) (.var 1)) (.var 1))])], .ret (some (.var 0))] }
def gDiv : Fn := { np := 2, n := 2, dfl := [], body := [.whl (.var 1) [.asg (.tup [.var 0, .var 1]) (.tup [.var 1, .bin .mod (.var 0) (.var 1)])], .ret (some (.var 0))] }
def gInt : Fn := { np := 1, n := 1, dfl := [], body := [.ret (some (.and [.isi (.var 0) [.int], .not (.isi (.var 0) [.bool])]))] }
def isI : Val → Bool
  | .int _ => true
  | _ => false
/-- values that a law hands about -/
def sim : Val → Bool
  | .non => true
  | .bl _ => true
  | .int _ => true
  | .str _ => true
  | .tup _ => true
  | _ => false
theorem gcd_step {x y : Int} (hx : 0 ≤ x) (hy : 0 ≤ y) : Int.gcd y (x % y) = Int.gcd x y := by
  obtain ⟨n, rfl⟩ := Int.eq_ofNat_of_zero_le hx
  obtain ⟨m, rfl⟩ := Int.eq_ofNat_of_zero_le hy
  show Nat.gcd m (n % m) = Nat.gcd n m
  rw [Nat.gcd_comm m, ← Nat.gcd_rec, Nat.gcd_comm]
section
variable {P : Env} {o : Oracle} {M : Mem} {Q : Val → Mem → Prop} {X : Exc → Mem → Prop}
theorem s_isint {v : Val} (h : sim v = true) (q : Q (.bl (isI v)) M) : Rw (runB P o gInt [v] M) Q X := by
  rw [Rw_runB]
  unfold gInt
  cases v <;> first | (cases h; done) | skip
  all_goals (walk_at "mi"; exact q)
theorem s_gcd {a b : Int} (ha : 0 ≤ a) (hb : 0 ≤ b) (hb2 : b < 10 ^ 99) (q : Q (.int (Int.gcd a b)) M) : Rw (runB P o gDiv [.int a, .int b] M) Q X := by
  rw [Rw_runB]
  unfold gDiv
  walk_at "mi"
  refine whl_inv (fun m σ M' => ∃ x y : Int, σ = [some (.int x), some (.int y)] ∧ M' = M ∧ 0 ≤ x ∧ 0 ≤ y ∧ Int.gcd x y = Int.gcd a b ∧ m = y.toNat) b.toNat (by omega) ⟨a, b, rfl, rfl, ha, hb, rfl, rfl⟩ ?_
  intro m σ M' ⟨x, y, e1, e2, hx, hy, e3, e4⟩
  subst e1 e2
  walk_at "mi"
  by_cases e : y = 0
  · subst e
    show Q _ _
    rw [← e3, Int.gcd_zero_right, Int.natAbs_of_nonneg hx] at q
    exact q
  · have hy0 : 0 < y := by omega
    rw [show (y != 0) = true from by simp [e]]
    show Ck (decide (0 < y)) _
    rw [decide_eq_true hy0]
    refine ⟨(x % y).toNat, ?_, y, x % y, rfl, trivial, hy, Int.emod_nonneg _ e, ?_, rfl⟩
    · have := Int.emod_lt_of_pos x hy0
      have := Int.emod_nonneg x e
      omega
    · exact (gcd_step hx hy).trans e3
/-- the law's own: by // and * -/
theorem s_now {a b : Int} (ha : 0 ≤ a) (hb : 0 ≤ b) (ha2 : a < 10 ^ 90) (hb2 : b < 10 ^ 90) (q : Q (.int (Int.gcd a b)) M) : Rw (runB P o gNow [.int a, .int b] M) Q X := by
  rw [Rw_runB]
  unfold gNow
  walk_at "mi"
  refine whl_inv (fun m σ M' => ∃ x y : Int, σ = [some (.int x), some (.int y)] ∧ M' = M ∧ 0 ≤ x ∧ 0 ≤ y ∧ x < 10 ^ 90 ∧ y < 10 ^ 90 ∧ Int.gcd x y = Int.gcd a b ∧ m = y.toNat) b.toNat (by omega) ⟨a, b, rfl, rfl, ha, hb, ha2, hb2, rfl, rfl⟩ ?_
  intro m σ M' ⟨x, y, e1, e2, hx, hy, hx2, hy2, e3, e4⟩
  subst e1 e2
  walk_at "mi"
  by_cases e : y = 0
  · subst e
    show Q _ _
    rw [← e3, Int.gcd_zero_right, Int.natAbs_of_nonneg hx] at q
    exact q
  · have hy0 : 0 < y := by omega
    rw [show decide (y = 0) = false from decide_eq_false e]
    show Ck (divOk y) _
    rw [divOk_of 400 hy0 (by have : (10 : Int) ^ 90 < 2 ^ 400 := by decide
                             omega)]
    show Ck (mulOk (x / y) y) _
    have hd : 0 ≤ x / y := Int.ediv_nonneg hx hy
    have hd2 : x / y ≤ x := Int.ediv_le_self y hx
    rw [mulOk_of 400 400 (by have : (10 : Int) ^ 90 < 2 ^ 400 := by decide
                             omega) (by have : (10 : Int) ^ 90 < 2 ^ 400 := by decide
                                        omega)]
    have em : x - x / y * y = x % y := by have := Int.emod_add_mul_ediv x y; rw [Int.mul_comm] at this; omega
    have h1 := Int.emod_nonneg x e
    have h2 := Int.emod_lt_of_pos x hy0
    refine ⟨(x % y).toNat, by omega, y, x % y, by rw [em], trivial, hy, h1, hy2, by omega, (gcd_step hx hy).trans e3, rfl⟩
end
end Mi
end
section
set_option Elab.async false
set_option linter.all false
set_option maxRecDepth 10000
set_option exponentiation.threshold 2000
/-! M3: the box of drawn numbers. -/
namespace Mi
local macro_rules | `(tactic| walk_at "mi") => `(tactic| simp only [Fw_cons, Fw_nil, Fw_asg, Fw_retN, Fw_ret, Fw_ex, Fw_ifs, Fw_for, Fw_whl, Fw_pass, Fw_brk, Fw_cnt, Fw_try, Fw_nx, Fw_rt, Fw_exc, Sq_nx, Sq_rt, Sq_exc, Sq_bk, Sq_ct, Tr_nx, Tr_rt, Tr_exc, Rt_nx, Rt_rt, Rt_exc, Lp_nx, Lp_ct, Lp_bk, Lp_rt, Lp_exc,
  Rw_ok, Rw_exc, Rw_err, Rw_var, Rw_int, Rw_non, Rw_bl, Rw_str, Rw_bin, Rw_neg, Rw_not, Rw_cmp, Rw_cmp1, Rw_cmp2, Rw_and, Rw_and1, Rw_and2, Rw_or, Rw_or1, Rw_or2, Rw_ite, Rw_ix, Rw_sl, Rw_opt0, Rw_opt1, Rw_tup, Rw_lst, Rw_evs0, Rw_evs1, Rw_as0, Rw_as1, Rw_as2, Rw_call, Rw_callK, Rw_app, Rw_bi, Rw_me, Rw_isi, Rw_lm, Rw_comp, Rw_fldX, Rw_irv, Rw_irr, Rw_ire, Rw_irz, Rw_ifs0, Rw_ifs1, Rw_elt, Rw_loop, Rw_turn, Rw_evT, Rw_asgv, Rw_asgt, Rw_asgs0, Rw_asgs1, Rw_asgi,
  Ck_true, Ck_false, Tq_true, Tq_false, Bw_some, Ow_some, Ov_some, b_add, b_sub, b_mul, b_fdiv, b_mod, b_pow, b_str, b_tup, bq_abs, bq_int, bi_intb, bi_lent, t_bl, t_int, t_non, c_lt, c_le, c_gt, c_ge, c_eqi, c_nei, c_eqs, c_nes, c_is, c_isnot,
  List.getElem?_cons_zero, List.getElem?_cons_succ, List.set_cons_zero, List.set_cons_succ, List.map_cons, List.map_nil, List.replicate_succ, List.replicate_zero, List.cons_append, List.nil_append, List.length_cons, List.length_nil, allD, isD_non, isD_bl, isD_int, isD_str, isD_tup, isD_rl, isD_ref, isD_glo, isD_lm, cloXs, cloX_clo, cloX_non, cloX_bl, cloX_int, cloX_str, cloX_tup, cloX_rl, cloX_ref, cloX_glo, cloX_lm, isX_non, isX_bl, isX_int, isX_str, isX_tup, isX_rl, isX_ref, isX_glo, isX_lm, isX_clo, noXs_nil, noXs_none, noXs_some, Bool.and_true, Bool.true_and, Bool.not_false, Bool.not_true, Bool.and_false, Bool.false_and, isAny, isCN, isV, decide_true, decide_false, List.all_cons, List.all_nil, ownOk, Int.reduceLT, Int.reduceLE, Int.reduceNeg, Int.reduceAdd, Int.reduceSub, Int.reduceMul, Int.reduceDiv, Int.reduceMod, Nat.reduceAdd])
def takeA : Fn := { np := 2, n := 3, dfl := [], body := [.ifs (.cmp (.ix (.var 0) (.lit (.int 0))) [.mk .ne (.lst [])]) [.asg (.var 2) (.ix (.ix (.var 0) (.lit (.int 0))) (.lit (.int 0))), .asg (.sub (.var 0) (.lit (.int 0))) (.bin .add (.ite (.cmp (.var 2) [.mk .ge (.var 1)]) (.lst [.bin .fdiv (.var 2) (.var 1)]) (.lst [])) (.sl (.ix (.var 0) (.lit (.int 0))) (some (.lit (.int 1))) none)), .ret (some (.bin .mod (.bi .int [.var 2]) (.var 1)))] [], .asg (.sub (.var 0) (.lit (.int 1))) (.bin .mod (.bi .int [.bin .mul (.ix (.var 0) (.lit (.int 1))) (.lit (.int 48271))]) (.lit (.int 2147483647))), .ret (some (.bin .mod (.bi .int [.bin .fdiv (.bin .add (.bin .mul (.ix (.var 0) (.lit (.int 1))) (.lit (.int 69621))) (.lit (.int 47))) (.lit (.int 1013))]) (.var 1)))] }
def boxA : Fn := { np := 1, n := 6, dfl := [], body := [.asg (.tup [.var 1, .var 2]) (.tup [.lst [], .lit (.int 84131)]), .for (.tup [.var 3, .var 4]) (.enum (.sl (.var 0) none (some (.lit (.int 63))))) [.asg (.var 5) (.bin .add (.bin .mul (.bi .abs [.var 4]) (.lit (.int 2))) (.bi .int [.cmp (.var 4) [.mk .lt (.lit (.int 0))]])), .ifs (.cmp (.bi .abs [.var 4]) [.mk .ge (.bin .pow (.lit (.int 10)) (.lit (.int 18)))]) [.ex (.me .append (.var 1) [.bi .abs [.var 4]])] [], .asg (.var 2) (.bin .add (.bin .mod (.bi .int [.bin .add (.bin .add (.bin .mul (.var 2) (.lit (.int 48271))) (.bin .mul (.bin .mod (.bi .int [.var 5]) (.lit (.int 2147483629))) (.bin .add (.bin .mul (.lit (.int 2)) (.var 3)) (.lit (.int 33211))))) (.lit (.int 37))]) (.lit (.int 2147483629))) (.lit (.int 1)))], .ret (some (.lst [.var 1, .var 2]))] }
def Bx (M : Mem) (b : Nat) : Prop := ∃ (r : Nat) (st : Int) (ms : List Int), M[b]? = some (.lst [.ref r, .int st]) ∧ M[r]? = some (.lst (ms.map Val.int)) ∧ r ≠ b ∧ ms.length ≤ 1000 ∧ (∀ m ∈ ms, 0 ≤ m) ∧ 0 ≤ st ∧ st < 10 ^ 12
/-- all but b is kept -/
def Kp (b : Nat) (M M' : Mem) : Prop := M.length ≤ M'.length ∧ ∀ i, i ≠ b → i < M.length → M'[i]? = M[i]?
theorem Kp.refl (b : Nat) (M : Mem) : Kp b M M := ⟨Nat.le_refl _, fun _ _ _ => rfl⟩
theorem Kp.trans {b : Nat} {M M1 M2 : Mem} (h : Kp b M M1) (k : Kp b M1 M2) : Kp b M M2 := ⟨Nat.le_trans h.1 k.1, fun i a c => (k.2 i a (Nat.lt_of_lt_of_le c h.1)).trans (h.2 i a c)⟩
theorem Kp.get {b : Nat} {M M' : Mem} (h : Kp b M M') {i : Nat} {ob : Ob} (hb : i ≠ b) (e : M[i]? = some ob) : M'[i]? = some ob := by
  rw [h.2 i hb (List.getElem?_eq_some_iff.mp e).1]
  exact e
theorem Kp.ext {b : Nat} {M M' : Mem} (h : Ext M M') : Kp b M M' := by
  obtain ⟨G, rfl⟩ := h
  exact ⟨by simp, fun i _ hi => List.getElem?_append_left hi⟩
theorem Kp.set {b : Nat} {M : Mem} {ob : Ob} : Kp b M (M.set b ob) := ⟨by simp, fun i a _ => by rw [List.getElem?_set_ne (Ne.symm a)]⟩
theorem Bx.ext {M M' : Mem} {b : Nat} (h : Bx M b) (e : Ext M M') : Bx M' b := by
  obtain ⟨r, st, ms, h1, h2, h3⟩ := h
  exact ⟨r, st, ms, e.get h1, e.get h2, h3⟩
theorem Bx.lt {M : Mem} {b : Nat} (h : Bx M b) : b < M.length := by
  obtain ⟨r, st, ms, h1, _⟩ := h
  exact (List.getElem?_eq_some_iff.mp h1).1
theorem item_ref {M : Mem} {n : Nat} {xs : List Val} {i : Int} (h : M[n]? = some (.lst xs)) : item M (.ref n) (.int i) = L2.atI xs i := by
  show (match lsOf M n with | some xs => L2.atI xs i | none => none) = _
  rw [lsOf_of h]
theorem setIx_ref {M : Mem} {n k : Nat} {xs : List Val} {i : Int} {v : Val} (h : M[n]? = some (.lst xs)) (hk : L2.ixN xs.length i = some k) (hv : v.isD = true) : setIx (.ref n) (.int i) v M = some (M.set n (.lst (xs.set k v))) := by
  show (match M[n]? with | some (.lst xs) => (match L2.ixN xs.length i with | some k => (match v.isD with | true => some (M.set n (.lst (xs.set k v))) | false => none) | none => none) | _ => none) = _
  rw [h]
  show (match L2.ixN xs.length i with | some k => (match v.isD with | true => some (M.set n (.lst (xs.set k v))) | false => none) | none => none) = _
  rw [hk]
  show (match v.isD with | true => some (M.set n (.lst (xs.set k v))) | false => none) = _
  rw [hv]
theorem atI_zero {x : Val} {xs : List Val} : L2.atI (x :: xs) 0 = some x := by
  unfold L2.atI L2.ixN
  simp
theorem get_app {M : Mem} {i : Nat} {ob x : Ob} (h : M[i]? = some ob) : (M ++ [x])[i]? = some ob := (Ext.one M x).get h
section
variable {P : Env} {o : Oracle} {M : Mem} {Q : Val → Mem → Prop} {X : Exc → Mem → Prop}
theorem Rw_slice {n : Nat} {xs : List Val} {lo hi : Option Int} (h : M[n]? = some (.lst xs)) : Rw (slice (.ref n) lo hi M) Q X = Q (.ref M.length) (M ++ [.lst (cut xs lo hi)]) := by
  show Rw (match lsOf M n with | some xs => _ | none => _) Q X = _
  rw [lsOf_of h]
  rfl
theorem s_take {b : Nat} {many : Int} (hB : Bx M b) (h0 : 0 < many) (h1 : many < 10 ^ 100) (q : ∀ v M', 0 ≤ v → v < many → Bx M' b → Kp b M M' → Q (.int v) M') : Rw (runB P o takeA [.ref b, .int many] M) Q X := by
  obtain ⟨r, st, ms, hb, hr, hrb, hlen, hms, hs0, hs1⟩ := hB
  rw [Rw_runB]
  unfold takeA
  walk_at "mi"
  have i0 : L2.atI [Val.ref r, Val.int st] 0 = some (.ref r) := rfl
  rw [item_ref hb, i0]
  walk_at "mi"
  rw [c_ne, vEq_empty (get_app hr) (get_new _ _)]
  have hp : (10 : Int) ^ 100 < 2 ^ 400 := by decide
  have hp2 : (10 : Int) ^ 12 < 2 ^ 50 := by decide
  cases ms with
  | nil =>
    show Ow (item (M ++ [.lst []]) (.ref b) (.int 1)) _
    rw [item_ref (get_app hb), show L2.atI [Val.ref r, Val.int st] 1 = some (.int st) from rfl]
    walk_at "mi"
    rw [mulOk_of 50 20 (by omega) (by decide)]
    walk_at "mi"
    have hb1 : (M ++ [Ob.lst []])[b]? = some (.lst [.ref r, .int st]) := get_app hb
    have hlt : b < (M ++ [Ob.lst []]).length := (List.getElem?_eq_some_iff.mp hb1).1
    rw [setIx_ref hb1 (show L2.ixN [Val.ref r, Val.int st].length 1 = some 1 from rfl) rfl]
    walk_at "mi"
    have g1 := List.getElem?_set_self (a := Ob.lst [Val.ref r, Val.int (st * 48271 % 2147483647)]) hlt
    have e1 := Int.emod_nonneg (st * 48271) (b := 2147483647) (by decide)
    have e2 := Int.emod_lt_of_pos (st * 48271) (b := 2147483647) (by decide)
    rw [item_ref g1, show L2.atI [Val.ref r, Val.int (st * 48271 % 2147483647)] 1 = some (.int (st * 48271 % 2147483647)) from rfl]
    walk_at "mi"
    generalize hz : st * 48271 % 2147483647 = z at *
    rw [mulOk_of 50 20 (by omega) (by decide)]
    walk_at "mi"
    rw [divOk_of 20 (by decide) (by decide)]
    walk_at "mi"
    rw [decide_eq_true h0]
    refine q _ _ (Int.emod_nonneg _ (by omega)) (Int.emod_lt_of_pos _ h0) ⟨r, z, [], g1, ?_, hrb, by simp, by simp, e1, by omega⟩ (Kp.trans (Kp.ext (Ext.one _ _)) Kp.set)
    rw [List.getElem?_set_ne (Ne.symm hrb)]
    exact get_app hr
  | cons m ms =>
    have hm := hms m List.mem_cons_self
    show Ow (item (M ++ [.lst []]) (.ref b) (.int 0)) _
    rw [item_ref (get_app hb), i0]
    walk_at "mi"
    rw [item_ref (get_app hr), List.map_cons, atI_zero]
    walk_at "mi"
    have key : ∀ (M2 : Mem) (L : Nat) (c : List Int), M2.length ≥ M.length + 2 → (∀ i, i < M.length → M2[i]? = M[i]?) → M2[L]? = some (.lst (c.map Val.int)) → c.length ≤ 1 → (∀ m ∈ c, 0 ≤ m) →
      (Ow (item M2 (.ref b) (.int 0)) fun v_2 => Rw (slice v_2 (some 1) none M2) (fun y M_1 => Rw (binop BOp.add (Val.ref L) y M_1) (fun v_3 M =>
        Ow (setIx (Val.ref b) (Val.int 0) v_3 M) fun M => Ck (decide (0 < many)) (Q (Val.int (m % many)) M)) fun x M => X x M) fun x M => X x M) := by
      intro M2 L c l1 l2 l3 l4 l5
      have b2 : M2[b]? = some (.lst [.ref r, .int st]) := (l2 b (List.getElem?_eq_some_iff.mp hb).1).trans hb
      have r2 : M2[r]? = some (.lst ((m :: ms).map Val.int)) := (l2 r (List.getElem?_eq_some_iff.mp hr).1).trans hr
      rw [item_ref b2, i0]
      walk_at "mi"
      rw [Rw_slice r2]
      have hcut : cut ((m :: ms).map Val.int) (some 1) none = ms.map Val.int := by
        unfold cut
        simp [HT.sIx]
        exact List.take_of_length_le (by simp)
      rw [hcut, b_lst (lsOf_of (get_app l3)) (lsOf_of (get_new M2 _))]
      rw [decide_eq_true (by simp only [List.length_map]; unfold lineN; simp only [List.length_cons] at hlen; omega)]
      walk_at "mi"
      have b3 := get_app (x := Ob.lst (c.map Val.int ++ ms.map Val.int)) (get_app (x := Ob.lst (ms.map Val.int)) b2)
      have hlt := (List.getElem?_eq_some_iff.mp b3).1
      rw [setIx_ref b3 (show L2.ixN [Val.ref r, Val.int st].length 0 = some 0 from rfl) rfl, decide_eq_true h0]
      have nb : (M2 ++ [Ob.lst (ms.map Val.int)]).length ≠ b := fun z => by
        have := (List.getElem?_eq_some_iff.mp hb).1
        rw [← z] at this
        simp only [List.length_append, List.length_cons, List.length_nil] at this
        omega
      refine q _ _ (Int.emod_nonneg _ (by omega)) (Int.emod_lt_of_pos _ h0) ⟨_, st, c ++ ms, List.getElem?_set_self hlt, ?_, nb, ?_, ?_, hs0, hs1⟩ (Kp.trans ?_ Kp.set)
      · rw [List.getElem?_set_ne (Ne.symm nb), List.map_append]
        exact get_new _ _
      · simp only [List.length_append, List.length_cons] at hlen ⊢
        omega
      · intro y hy
        rcases List.mem_append.mp hy with hy | hy
        · exact l5 y hy
        · exact hms y (List.mem_cons_of_mem _ hy)
      · refine ⟨by simp only [List.length_append]; omega, fun i _ hi => ?_⟩
        rw [List.getElem?_append_left (by simp only [List.length_append]; omega), List.getElem?_append_left (by omega)]
        exact l2 i hi
    refine Tq_dec (fun hge => ?_) fun hlt => ?_
    · rw [divOk_of 400 h0 (by omega)]
      walk_at "mi"
      refine key (M ++ [.lst []] ++ [.lst [.int (m / many)]]) (M ++ [Ob.lst []]).length [m / many] (by simp) (fun i hi => ?_) (get_new _ _) (Nat.le_refl _) fun y hy => ?_
      · rw [List.getElem?_append_left (by simp; omega), List.getElem?_append_left hi]
      · rw [List.mem_singleton.mp hy]
        exact Int.ediv_nonneg hm (by omega)
    · refine key (M ++ [.lst []] ++ [.lst []]) (M ++ [Ob.lst []]).length [] (by simp) (fun i hi => ?_) (get_new _ _) (Nat.zero_le _) fun y hy => (nomatch hy)
      rw [List.getElem?_append_left (by simp; omega), List.getElem?_append_left hi]
end
end Mi
end
section
set_option Elab.async false
set_option linter.all false
set_option maxRecDepth 10000
/-! M4: the box is made. -/
namespace Mi
local macro_rules | `(tactic| walk_at "mi") => `(tactic| simp only [Fw_cons, Fw_nil, Fw_asg, Fw_retN, Fw_ret, Fw_ex, Fw_ifs, Fw_for, Fw_whl, Fw_pass, Fw_brk, Fw_cnt, Fw_try, Fw_nx, Fw_rt, Fw_exc, Sq_nx, Sq_rt, Sq_exc, Sq_bk, Sq_ct, Tr_nx, Tr_rt, Tr_exc, Rt_nx, Rt_rt, Rt_exc, Lp_nx, Lp_ct, Lp_bk, Lp_rt, Lp_exc,
  Rw_ok, Rw_exc, Rw_err, Rw_var, Rw_int, Rw_non, Rw_bl, Rw_str, Rw_bin, Rw_neg, Rw_not, Rw_cmp, Rw_cmp1, Rw_cmp2, Rw_and, Rw_and1, Rw_and2, Rw_or, Rw_or1, Rw_or2, Rw_ite, Rw_ix, Rw_sl, Rw_opt0, Rw_opt1, Rw_tup, Rw_lst, Rw_evs0, Rw_evs1, Rw_as0, Rw_as1, Rw_as2, Rw_call, Rw_callK, Rw_app, Rw_bi, Rw_me, Rw_isi, Rw_lm, Rw_comp, Rw_fldX, Rw_irv, Rw_irr, Rw_ire, Rw_irz, Rw_ifs0, Rw_ifs1, Rw_elt, Rw_loop, Rw_turn, Rw_evT, Rw_asgv, Rw_asgt, Rw_asgs0, Rw_asgs1, Rw_asgi,
  Ck_true, Ck_false, Tq_true, Tq_false, Bw_some, Ow_some, Ov_some, b_add, b_sub, b_mul, b_fdiv, b_mod, b_pow, b_str, b_tup, bq_abs, bq_int, bi_intb, bi_lent, t_bl, t_int, t_non, c_lt, c_le, c_gt, c_ge, c_eqi, c_nei, c_eqs, c_nes, c_is, c_isnot,
  List.getElem?_cons_zero, List.getElem?_cons_succ, List.set_cons_zero, List.set_cons_succ, List.map_cons, List.map_nil, List.replicate_succ, List.replicate_zero, List.cons_append, List.nil_append, List.length_cons, List.length_nil, allD, isD_non, isD_bl, isD_int, isD_str, isD_tup, isD_rl, isD_ref, isD_glo, isD_lm, cloXs, cloX_clo, cloX_non, cloX_bl, cloX_int, cloX_str, cloX_tup, cloX_rl, cloX_ref, cloX_glo, cloX_lm, isX_non, isX_bl, isX_int, isX_str, isX_tup, isX_rl, isX_ref, isX_glo, isX_lm, isX_clo, noXs_nil, noXs_none, noXs_some, Bool.and_true, Bool.true_and, Bool.not_false, Bool.not_true, Bool.and_false, Bool.false_and, isAny, isCN, isV, decide_true, decide_false, List.all_cons, List.all_nil, ownOk, Int.reduceLT, Int.reduceLE, Int.reduceNeg, Int.reduceAdd, Int.reduceSub, Int.reduceMul, Int.reduceDiv, Int.reduceMod, Nat.reduceAdd])
section
variable {P : Env} {o : Oracle} {M : Mem} {Q : Val → Mem → Prop} {X : Exc → Mem → Prop}
theorem natAbs_abs (i : Int) : (if i < 0 then -i else i).natAbs = i.natAbs := by
  split <;> omega
theorem mulOk_log {i j : Int} (a : Nat) (h1 : i.natAbs.log2 < 2000000) (h2 : j.natAbs < 2 ^ a) (ha : 0 < a := by decide) (h : a ≤ 1000 := by decide) : mulOk i j = true := by
  unfold mulOk
  have := log2_lt h2 ha
  exact decide_eq_true (by omega)
theorem Rw_slicerl {xs : List Val} {lo hi : Option Int} : Rw (slice (.rl xs) lo hi M) Q X = Q (.ref M.length) (M ++ [.lst (cut xs lo hi)]) := rfl
theorem me_append {n : Nat} {xs : List Val} {v : Val} (h : M[n]? = some (.lst xs)) (hv : v.isD = true) (hl : xs.length < lineN) : me .append (.ref n) [v] M = .ok .non (M.set n (.lst (xs ++ [v]))) := by
  show (match M[n]? with | some (.lst xs) => (match v.isD && decide (xs.length < lineN) with | true => R.ok Val.non (M.set n (.lst (xs ++ [v]))) | false => .err) | _ => .err) = _
  rw [h, hv]
  simp [hl]
theorem s_box {ns : List Int} (hl : ns.length ≤ 63) (hb : ∀ z ∈ ns, PySem.Builtin.Int.intBits z ≤ 1048576) (q : ∀ b M', Bx M' b → Q (.ref b) M') : Rw (runB P o boxA [.rl (ns.map Val.int)] []) Q X := by
  rw [Rw_runB]
  unfold boxA
  walk_at "mi"
  rw [Rw_slicerl]
  have hc : cut (ns.map Val.int) none (some 63) = ns.map Val.int := by
    unfold cut
    simp [HT.sIx]
    exact List.take_of_length_le (by simp; omega)
  rw [hc]
  walk_at "mi"
  show Fw (forW (.enum (.ls 1)) _ _ _ _ _ _) _
  refine for_inv ns.length (fun i σ M => ∃ (s : Val) (st : Int) (ms : List Int) (a b c : Option Val), σ = [some s, some (.ref 0), some (.int st), a, b, c] ∧ M = [.lst (ms.map Val.int), .lst (ns.map Val.int)] ∧ ms.length ≤ i ∧ (∀ m ∈ ms, 0 ≤ m) ∧ 0 ≤ st ∧ st < 10 ^ 12) (by omega)
    ⟨_, 84131, [], none, none, none, rfl, rfl, Nat.le_refl _, fun _ h => (nomatch h), by decide, by decide⟩ ?_ ?_
  · intro i σ M hi ⟨s, st, ms, a, b, c, e1, e2, l1, l2, l3, l4⟩
    subst e1 e2
    refine ⟨.tup [.int i, .int ns[i]], _, ?_, rfl, ?_⟩
    · simp [It.item, lsOf, hi]
    · have hz := hb ns[i] (List.getElem_mem hi)
      generalize ns[i] = z at *
      have hlog : z.natAbs.log2 < 2000000 := by
        unfold PySem.Builtin.Int.intBits at hz
        split at hz
        · rename_i e0
          rw [beq_iff_eq] at e0
          subst e0
          decide
        · omega
      have ab : 0 ≤ (if z < 0 then -z else z) := by split <;> omega
      walk_at "mi"
      rw [mulOk_log 2 (by rw [natAbs_abs]; exact hlog) (by decide)]
      walk_at "mi"
      rw [show powOk 10 18 = true from by decide]
      walk_at "mi"
      generalize (if z < 0 then -z else z) * 2 + (if decide (z < 0) = true then 1 else 0) = y
      generalize hw : (if z < 0 then -z else z) = w at *
      have y1 := Int.emod_nonneg y (b := 2147483629) (by decide)
      have y2 := Int.emod_lt_of_pos y (b := 2147483629) (by decide)
      have fin : ∀ (ms' : List Int), ms'.length ≤ i + 1 → (∀ m ∈ ms', 0 ≤ m) → Ck (mulOk st 48271) (Ck (mulOk 2 (i : Int)) (Ck (mulOk (y % 2147483629) (2 * (i : Int) + 33211)) (∃ (s' : Val) (st' : Int) (ms : List Int) (a b c : Option Val),
          [some s, some (.ref 0), some (.int ((st * 48271 + y % 2147483629 * (2 * (i : Int) + 33211) + 37) % 2147483629 + 1)), some (.int i), some (.int z), some (.int y)] = [some s', some (.ref 0), some (.int st'), a, b, c] ∧
          [Ob.lst (ms'.map Val.int), Ob.lst (ns.map Val.int)] = [Ob.lst (ms.map Val.int), Ob.lst (ns.map Val.int)] ∧ ms.length ≤ i + 1 ∧ (∀ m ∈ ms, 0 ≤ m) ∧ 0 ≤ st' ∧ st' < 10 ^ 12))) := by
        intro ms' g1 g2
        rw [mulOk_of 50 20 (by have : (10 : Int) ^ 12 < 2 ^ 50 := by decide
                               omega) (by decide), mulOk_of 2 50 (by decide) (by omega), mulOk_of 50 50 (by omega) (by omega)]
        have k1 := Int.emod_nonneg (st * 48271 + y % 2147483629 * (2 * (i : Int) + 33211) + 37) (b := 2147483629) (by decide)
        have k2 := Int.emod_lt_of_pos (st * 48271 + y % 2147483629 * (2 * (i : Int) + 33211) + 37) (b := 2147483629) (by decide)
        refine ⟨s, _, ms', _, _, _, rfl, rfl, g1, g2, by omega, ?_⟩
        have : (10 : Int) ^ 12 = 1000000000000 := by decide
        omega
      refine Tq_of (fun _ => ?_) fun _ => fin ms (by omega) l2
      rw [show meRecv Me.append (Val.ref 0) [Ob.lst (List.map Val.int ms), Ob.lst (List.map Val.int ns)] = true from rfl, me_append (xs := ms.map Val.int) rfl rfl (by rw [List.length_map]; unfold lineN; omega)]
      walk_at "mi"
      have := fin (ms ++ [w]) (by rw [List.length_append]; simp only [List.length_cons, List.length_nil]; omega) (fun m hm => by
        rcases List.mem_append.mp hm with hm | hm
        · exact l2 m hm
        · rw [List.mem_singleton.mp hm]
          exact ab)
      rw [List.map_append] at this
      exact this
  · intro σ M ⟨s, st, ms, a, b, c, e1, e2, l1, l2, l3, l4⟩
    subst e1 e2
    refine ⟨by simp [It.item, lsOf], ?_⟩
    walk_at "mi"
    exact q 2 _ ⟨0, st, ms, rfl, rfl, by decide, by omega, l2, l3, l4⟩
end
end Mi
end
section
set_option Elab.async false
set_option linter.all false
set_option maxRecDepth 10000
/-! M5: told is what is due. -/
namespace Mi
local macro_rules | `(tactic| walk_at "mi") => `(tactic| simp only [Fw_cons, Fw_nil, Fw_asg, Fw_retN, Fw_ret, Fw_ex, Fw_ifs, Fw_for, Fw_whl, Fw_pass, Fw_brk, Fw_cnt, Fw_try, Fw_nx, Fw_rt, Fw_exc, Sq_nx, Sq_rt, Sq_exc, Sq_bk, Sq_ct, Tr_nx, Tr_rt, Tr_exc, Rt_nx, Rt_rt, Rt_exc, Lp_nx, Lp_ct, Lp_bk, Lp_rt, Lp_exc,
  Rw_ok, Rw_exc, Rw_err, Rw_var, Rw_int, Rw_non, Rw_bl, Rw_str, Rw_bin, Rw_neg, Rw_not, Rw_cmp, Rw_cmp1, Rw_cmp2, Rw_and, Rw_and1, Rw_and2, Rw_or, Rw_or1, Rw_or2, Rw_ite, Rw_ix, Rw_sl, Rw_opt0, Rw_opt1, Rw_tup, Rw_lst, Rw_evs0, Rw_evs1, Rw_as0, Rw_as1, Rw_as2, Rw_call, Rw_callK, Rw_app, Rw_bi, Rw_me, Rw_isi, Rw_lm, Rw_comp, Rw_fldX, Rw_irv, Rw_irr, Rw_ire, Rw_irz, Rw_ifs0, Rw_ifs1, Rw_elt, Rw_loop, Rw_turn, Rw_evT, Rw_asgv, Rw_asgt, Rw_asgs0, Rw_asgs1, Rw_asgi,
  Ck_true, Ck_false, Tq_true, Tq_false, Bw_some, Ow_some, Ov_some, b_add, b_sub, b_mul, b_fdiv, b_mod, b_pow, b_str, b_tup, bq_abs, bq_int, bi_intb, bi_lent, t_bl, t_int, t_non, c_lt, c_le, c_gt, c_ge, c_eqi, c_nei, c_eqs, c_nes, c_is, c_isnot,
  List.getElem?_cons_zero, List.getElem?_cons_succ, List.set_cons_zero, List.set_cons_succ, List.map_cons, List.map_nil, List.replicate_succ, List.replicate_zero, List.cons_append, List.nil_append, List.length_cons, List.length_nil, allD, isD_non, isD_bl, isD_int, isD_str, isD_tup, isD_rl, isD_ref, isD_glo, isD_lm, cloXs, cloX_clo, cloX_non, cloX_bl, cloX_int, cloX_str, cloX_tup, cloX_rl, cloX_ref, cloX_glo, cloX_lm, isX_non, isX_bl, isX_int, isX_str, isX_tup, isX_rl, isX_ref, isX_glo, isX_lm, isX_clo, noXs_nil, noXs_none, noXs_some, Bool.and_true, Bool.true_and, Bool.not_false, Bool.not_true, Bool.and_false, Bool.false_and, isAny, isCN, isV, decide_true, decide_false, List.all_cons, List.all_nil, ownOk, Int.reduceLT, Int.reduceLE, Int.reduceNeg, Int.reduceAdd, Int.reduceSub, Int.reduceMul, Int.reduceDiv, Int.reduceMod, Nat.reduceAdd])
def isF (x : Nm) : Fn := { np := 2, n := 5, dfl := [], body := [.ifs (.isi (.var 1) [.tuple]) [.ifs (.or [.not (.isi (.var 0) [.tuple]), .cmp (.bi .len [.var 0]) [.mk .ne (.bi .len [.var 1])]]) [.ret (some (.lit (.bl false)))] [], .ret (some (.cmp (.comp [2, 3, 4] (.loop (.tup [.var 3, .var 4]) (.zip (.var 0) (.var 1)) [.not (.call x [.ex (.var 3), .ex (.var 4)])] (.elt (.lit (.int 1))))) [.mk .eq (.lst [])]))] [], .ifs (.or [.cmp (.var 1) [.mk .is (.lit (.non))], .cmp (.var 1) [.mk .is (.lit (.bl true))], .cmp (.var 1) [.mk .is (.lit (.bl false))]]) [.ret (some (.ite (.cmp (.var 1) [.mk .is (.lit (.non))]) (.cmp (.var 0) [.mk .is (.lit (.non))]) (.ite (.cmp (.var 1) [.mk .is (.lit (.bl true))]) (.cmp (.var 0) [.mk .is (.lit (.bl true))]) (.cmp (.var 0) [.mk .is (.lit (.bl false))]))))] [], .ifs (.isi (.var 1) [.int]) [.ret (some (.and [.isi (.var 0) [.int], .not (.isi (.var 0) [.bool]), .cmp (.var 0) [.mk .eq (.var 1)]]))] [], .ret (some (.and [.isi (.var 1) [.str], .isi (.var 0) [.str], .cmp (.var 0) [.mk .eq (.var 1)]]))] }
mutual
/-- data without lists, tuples not too long -/
def pln : Val → Bool
  | .non => true
  | .bl _ => true
  | .int _ => true
  | .str _ => true
  | .tup xs => decide (xs.length ≤ 1000) && plns xs
  | _ => false
def plns : List Val → Bool
  | [] => true
  | v :: vs => pln v && plns vs
end
mutual
def dep : Val → Nat
  | .tup xs => deps xs + 1
  | _ => 0
def deps : List Val → Nat
  | [] => 0
  | v :: vs => max (dep v) (deps vs)
end
mutual
/-- told is what is due -/
def leq : Val → Val → Bool
  | t, .tup ds => match t with
    | .tup ts => leqs ts ds
    | _ => false
  | t, .non => match t with
    | .non => true
    | _ => false
  | t, .bl b => match t with
    | .bl c => c == b
    | _ => false
  | t, .int j => match t with
    | .int i => decide (i = j)
    | _ => false
  | t, .str y => match t with
    | .str x => decide (x = y)
    | _ => false
  | _, _ => false
def leqs : List Val → List Val → Bool
  | ts, [] => ts.isEmpty
  | ts, d :: ds => match ts with
    | t :: ts => leq t d && leqs ts ds
    | [] => false
end
theorem plns_get : ∀ {vs : List Val} {i : Nat} {v : Val}, plns vs = true → vs[i]? = some v → pln v = true
  | [], _, _, _, e => by simp at e
  | v :: vs, 0, w, h, e => by
    have h : (pln v && plns vs) = true := by rw [plns] at h; exact h
    have e : some v = some w := e
    cases e
    exact (Bool.and_eq_true_iff.mp h).1
  | v :: vs, i + 1, w, h, e => by
    have h : (pln v && plns vs) = true := by rw [plns] at h; exact h
    exact plns_get (Bool.and_eq_true_iff.mp h).2 (by simpa using e)
theorem deps_get : ∀ {vs : List Val} {i : Nat} {v : Val}, vs[i]? = some v → dep v ≤ deps vs
  | [], _, _, e => by simp at e
  | v :: vs, 0, w, e => by
    have e : some v = some w := e
    cases e
    rw [deps]
    exact Nat.le_max_left ..
  | v :: vs, i + 1, w, e => by
    have := deps_get (vs := vs) (i := i) (v := w) (by simpa using e)
    rw [deps]
    omega
theorem leqs_snoc : ∀ (ts ds : List Val) (t d : Val), ts.length = ds.length → leqs (ts ++ [t]) (ds ++ [d]) = (leqs ts ds && leq t d)
  | [], [], t, d, _ => by
    show leqs [t] [d] = _
    rw [leqs, leqs, leqs]
    simp
  | [], _ :: _, _, _, h => nomatch h
  | _ :: _, [], _, _, h => nomatch h
  | a :: ts, b :: ds, t, d, h => by
    show leqs (a :: (ts ++ [t])) (b :: (ds ++ [d])) = _
    rw [leqs, leqs]
    rw [leqs_snoc ts ds t d (by simpa using h), Bool.and_assoc]
theorem pln_isX {v : Val} (h : pln v = true) : v.isX = false := by
  cases v <;> first | rfl | (rw [pln] at h; cases h; done) | (simp [pln] at h)
theorem pln_cloX {v : Val} (h : pln v = true) : cloX v = true := by
  cases v <;> first | rfl | (simp [pln] at h)
theorem leqs_len : ∀ (ts ds : List Val), leqs ts ds = true → ts.length = ds.length
  | ts, [], h => by
    rw [leqs] at h
    cases ts with
    | nil => rfl
    | cons _ _ => cases h
  | [], _ :: _, h => by rw [leqs] at h; cases h
  | t :: ts, d :: ds, h => by
    rw [leqs] at h
    simp only [Bool.and_eq_true] at h
    rw [List.length_cons, List.length_cons, leqs_len ts ds h.2]
section
variable {p : PL} {Q : Val → Mem → Prop} {X : Exc → Mem → Prop}
set_option maxHeartbeats 4000000 in
theorem is_sc {P : Env} {o : Oracle} {M : Mem} {x : Nm} {t e : Val} (ht : pln t = true) (he : pln e = true) (hd : dep e = 0) (q : Q (.bl (leq t e)) M) : Rw (runB P o (isF x) [t, e] M) Q X := by
  rw [Rw_runB]
  unfold isF
  cases e <;> first | (rw [dep] at hd; omega) | (simp [pln] at he; done) | skip
  · cases t <;> first | (simp [pln] at ht; done) | (walk_at "mi"; exact q)
  · rename_i b
    cases b <;> (cases t <;> first | (simp [pln] at ht; done) | (walk_at "mi"; exact q) | (rename_i c; cases c <;> (walk_at "mi"; exact q)))
  · cases t <;> first | (simp [pln] at ht; done) | (walk_at "mi"; exact q)
  · cases t <;> first | (simp [pln] at ht; done) | (walk_at "mi"; exact q)
theorem is_t0 {P : Env} {o : Oracle} {M : Mem} {x : Nm} {t : Val} {ds : List Val} (ht : pln t = true) (hn : ∀ ts, t ≠ .tup ts) (q : Q (.bl false) M) : Rw (runB P o (isF x) [t, .tup ds] M) Q X := by
  rw [Rw_runB]
  unfold isF
  cases t <;> first | (simp [pln] at ht; done) | (exact (hn _ rfl).elim) | (walk_at "mi"; exact q)
set_option maxHeartbeats 4000000 in
theorem is_t1 {P : Env} {o : Oracle} {M : Mem} {x : Nm} {ts ds : List Val} (l2 : ds.length ≤ 1000)
    (call : ∀ (i : Nat) (t d : Val) (M : Mem) (Q : Val → Mem → Prop), ts[i]? = some t → ds[i]? = some d → (∀ G, Q (.bl (leq t d)) (M ++ G)) → Rw (o (.fn x) [t, d] M) Q noX)
    (hp : plns ts = true) (hp2 : plns ds = true) (q : ∀ G, Q (.bl (leqs ts ds)) (M ++ G)) : Rw (runB P o (isF x) [.tup ts, .tup ds] M) Q X := by
  rw [Rw_runB]
  unfold isF
  walk_at "mi"
  by_cases hl : ts.length = ds.length
  · rw [show decide ((ts.length : Int) = ds.length) = true from decide_eq_true (by omega)]
    walk_at "mi"
    show Rw (compW (.zip (.sq ts) (.sq ds)) _ _ _ _ _ _ _) _ _
    refine comp_inv ds.length (fun i acc M' => ∃ c : Nat, acc = (List.replicate c (1 : Int)).map Val.int ∧ c ≤ i ∧ decide (c = 0) = leqs (ts.take i) (ds.take i) ∧ Ext M M') (by omega) ⟨0, rfl, Nat.le_refl _, by rw [List.take_zero, List.take_zero, leqs]; rfl, Ext.refl M⟩ ?_ ?_
    · intro i acc M' hi ⟨c, e1, e2, e3, e4⟩
      subst e1
      have g1 : ts[i]? = some ts[i] := List.getElem?_eq_getElem (by omega)
      have g2 : ds[i]? = some ds[i] := List.getElem?_eq_getElem hi
      have p1 := plns_get hp g1
      have p2 := plns_get hp2 g2
      have tk : leqs (ts.take (i + 1)) (ds.take (i + 1)) = (leqs (ts.take i) (ds.take i) && leq ts[i] ds[i]) := by
        rw [List.take_succ, List.take_succ, g1, g2]
        exact leqs_snoc _ _ _ _ (by rw [List.length_take, List.length_take]; omega)
      generalize ts[i] = t at *
      generalize ds[i] = d at *
      refine ⟨.tup [t, d], _, ?_, rfl, ?_⟩
      · show (match some ts[i]? with | none => none | some ov => (match some ds[i]? with | none => none | some ow => (match ov with | none => some none | some v => (match ow with | none => some none | some w => some (some (Val.tup [v, w])))))) = _
        rw [g1, g2]
      · show Rw (turnM _ _ _ _ [some (.tup ts), some (.tup ds), none, some t, some d] _ _) _ _
        walk_at "mi"
        rw [pln_cloX p1, pln_cloX p2]
        refine call i t d _ _ g1 g2 fun G => ?_
        walk_at "mi"
        cases hq : leq t d with
        | true => exact ⟨c, rfl, by omega, by rw [tk, hq, e3, Bool.and_true], Ext.trans e4 ⟨G, rfl⟩⟩
        | false =>
          show Ck (decide _) _
          rw [decide_eq_true (show ((List.replicate c (1 : Int)).map Val.int).length < lineN by rw [List.length_map, List.length_replicate]; unfold lineN; omega)]
          exact ⟨c + 1, by rw [List.replicate_succ', List.map_append]; rfl, by omega, by rw [tk, hq, Bool.and_false]; exact decide_eq_false (by omega), Ext.trans e4 ⟨G, rfl⟩⟩
    · intro acc M' ⟨c, e1, e2, e3, e4⟩
      subst e1
      rw [List.take_of_length_le (by omega), List.take_of_length_le (by omega)] at e3
      refine ⟨?_, ?_⟩
      · show (match some ts[ds.length]? with | none => none | some ov => (match some ds[ds.length]? with | none => none | some ow => (match ov with | none => some none | some v => (match ow with | none => some none | some w => some (some (Val.tup [v, w])))))) = _
        rw [List.getElem?_eq_none (by omega)]
      · rw [c_eq, vEq_empty (get_app (get_new _ _)) (get_new _ _)]
        walk_at "mi"
        rw [show (List.replicate c (1 : Int)).isEmpty = decide (c = 0) by cases c <;> rfl, e3]
        obtain ⟨G, rfl⟩ := e4
        have := q (G ++ [Ob.lst ((List.replicate c (1 : Int)).map Val.int)] ++ [Ob.lst []])
        rw [← List.append_assoc, ← List.append_assoc] at this
        exact this
  · rw [show decide ((ts.length : Int) = ds.length) = false from decide_eq_false (by omega)]
    walk_at "mi"
    have := q []
    rw [List.append_nil, show leqs ts ds = false by cases h : leqs ts ds with | false => rfl | true => exact (hl (leqs_len _ _ h)).elim] at this
    exact this
theorem s_is {x : Nm} (hx : p.prog.fn x = some (isF x)) : ∀ (d k : Nat) (t e : Val) (M : Mem) (Q : Val → Mem → Prop) (X : Exc → Mem → Prop), pln t = true → pln e = true → dep e ≤ d → (∀ G, Q (.bl (leq t e)) (M ++ G)) → Rw (run p.prog (k + d + 1) (.fn x) [t, e] M) Q X := by
  intro d
  induction d with
  | zero =>
    intro k t e M Q X ht he hd q
    rw [Rw_fn hx]
    have q := q []
    rw [List.append_nil] at q
    exact is_sc ht he (by omega) q
  | succ d ih =>
    intro k t e M Q X ht he hd q
    rw [Rw_fn hx]
    show Rw (runB _ _ (isF x) [t, e] M) _ _
    by_cases h0 : dep e = 0
    · have q := q []
      rw [List.append_nil] at q
      exact is_sc ht he h0 q
    · obtain ⟨ds, rfl⟩ : ∃ ds, e = .tup ds := by
        cases e with
        | tup ds => exact ⟨ds, rfl⟩
        | _ => exact (h0 (by simp [dep])).elim
      rw [pln] at he
      obtain ⟨he1, he2⟩ := Bool.and_eq_true_iff.mp he
      rw [dep] at hd
      cases t with
      | tup ts =>
        rw [pln] at ht
        obtain ⟨ht1, ht2⟩ := Bool.and_eq_true_iff.mp ht
        refine is_t1 (of_decide_eq_true he1) (fun i t d' M Q h1 h2 q => ?_) ht2 he2 (fun G => by have := q G; rw [leq] at this; exact this)
        have := deps_get h2
        exact ih k t d' M Q noX (plns_get ht2 h1) (plns_get he2 h2) (by omega) q
      | _ =>
        refine is_t0 ht (fun ts z => nomatch z) ?_
        have q := q []
        rw [List.append_nil, leq] at q
        · exact q
        · intro xs z
          cases z
end
end Mi
end
section
set_option Elab.async false
set_option linter.all false
/-! N21: rings of two steps, in whole numbers. -/
namespace Mi.N21
theorem cop_dvd {a m z : Int} (h : Int.gcd a m = 1) (d : m ∣ z * a) : m ∣ z := by
  have h2 : Nat.Coprime m.natAbs a.natAbs := by
    have : Nat.gcd a.natAbs m.natAbs = 1 := h
    exact (Nat.gcd_comm _ _).trans this
  have d2 : m.natAbs ∣ z.natAbs * a.natAbs := by
    rw [← Int.natAbs_mul]
    exact Int.natAbs_dvd_natAbs.mpr d
  exact Int.natAbs_dvd_natAbs.mp (Nat.Coprime.dvd_of_dvd_mul_right h2 d2)
/-- a ring: one = g a, other = g c, a and a + c without common divisor -/
structure Ring (one other : Int) (g a c : Int) : Prop where
  e1 : one = g * a
  e2 : other = g * c
  g0 : 0 < g
  a0 : 0 < a
  c0 : 0 < c
  cop : Int.gcd a (a + c) = 1
theorem ring_of {one other : Int} (h1 : 0 < one) (h2 : 0 < other) : Ring one other (Int.gcd one other) (one / Int.gcd one other) (other / Int.gcd one other) := by
  have gp : 0 < Int.gcd one other := Int.gcd_pos_of_ne_zero_left _ (by omega)
  have g0 : (0 : Int) < (Int.gcd one other : Int) := by omega
  have d1 : (Int.gcd one other : Int) ∣ one := Int.gcd_dvd_left ..
  have d2 : (Int.gcd one other : Int) ∣ other := Int.gcd_dvd_right ..
  have e1 := Int.mul_ediv_cancel' d1
  have e2 := Int.mul_ediv_cancel' d2
  have a0 : 0 < one / (Int.gcd one other : Int) := by
    refine Int.lt_of_not_ge fun z => ?_
    have := Int.mul_nonpos_of_nonneg_of_nonpos (Int.le_of_lt g0) z
    omega
  have c0 : 0 < other / (Int.gcd one other : Int) := by
    refine Int.lt_of_not_ge fun z => ?_
    have := Int.mul_nonpos_of_nonneg_of_nonpos (Int.le_of_lt g0) z
    omega
  refine ⟨e1.symm, e2.symm, g0, a0, c0, ?_⟩
  have hc : Int.gcd (one / (Int.gcd one other : Int)) (other / (Int.gcd one other : Int)) = 1 := Int.gcd_ediv_gcd_ediv_gcd gp
  generalize one / (Int.gcd one other : Int) = a at *
  generalize other / (Int.gcd one other : Int) = c at *
  have : Int.gcd a (a + c) = Int.gcd a c := by
    rw [Int.gcd_self_add_right] 
  rw [this, hc]
section
variable {one other g a c : Int}
theorem Ring.n (R : Ring one other g a c) : one + other = g * (a + c) := by rw [Int.mul_add, ← R.e1, ← R.e2]
theorem Ring.n0 (R : Ring one other g a c) : 0 < one + other := by
  rw [R.n]
  exact Int.mul_pos R.g0 (by have := R.a0; have := R.c0; omega)
theorem Ring.m0 (R : Ring one other g a c) : 0 < a + c := by have := R.a0; have := R.c0; omega
theorem Ring.ndiv (R : Ring one other g a c) : (one + other) / g = a + c := by
  rw [R.n]
  exact Int.mul_ediv_cancel_left _ (by have := R.g0; omega)
theorem Ring.odiv (R : Ring one other g a c) : one / g = a := by
  rw [R.e1]
  exact Int.mul_ediv_cancel_left _ (by have := R.g0; omega)
theorem Ring.cdiv (R : Ring one other g a c) : other / g = c := by
  rw [R.e2]
  exact Int.mul_ediv_cancel_left _ (by have := R.g0; omega)
theorem emod_of {x n t z : Int} (h : x = t + n * z) (h0 : 0 ≤ t) (h1 : t < n) : x % n = t := by
  rw [h, Int.add_mul_emod_self_left]
  exact Int.emod_eq_of_lt h0 h1
/-- steps to the target, one at most below the ring's length -/
theorem Ring.uniq (R : Ring one other g a c) {x s k : Int} (h : (x + s * one) % (one + other) = (x + k * one) % (one + other)) (s0 : 0 ≤ s) (s1 : s < a + c) (k0 : 0 ≤ k) (k1 : k < a + c) : s = k := by
  have d : (one + other) ∣ (x + s * one) - (x + k * one) := Int.dvd_of_emod_eq_zero (by rw [Int.sub_emod, h, Int.sub_self, Int.zero_emod])
  obtain ⟨z, hz⟩ := d
  have e : g * ((s - k) * a) = g * ((a + c) * z) := by
    have e1 := R.e1
    have en := R.n
    calc g * ((s - k) * a) = (s - k) * (g * a) := by rw [Int.mul_left_comm]
      _ = (s - k) * one := by rw [← e1]
      _ = (x + s * one) - (x + k * one) := by rw [Int.sub_mul]; omega
      _ = (one + other) * z := hz
      _ = g * ((a + c) * z) := by rw [en, Int.mul_assoc]
  have e2 := Int.eq_of_mul_eq_mul_left (by have := R.g0; omega) e
  have d2 := cop_dvd R.cop ⟨z, e2⟩
  have := R.m0
  obtain ⟨y, hy⟩ := d2
  have : y = 0 := by
    refine Int.le_antisymm (Int.not_lt.mp fun h1 => ?_) (Int.not_lt.mp fun h1 => ?_)
    · have := Int.mul_le_mul_of_nonneg_left (show (1 : Int) ≤ y by omega) (show 0 ≤ a + c by omega)
      omega
    · have := Int.mul_le_mul_of_nonneg_left (show y ≤ (-1 : Int) by omega) (show 0 ≤ a + c by omega)
      omega
  subst this
  omega
/-- the steps told lead to the target -/
theorem Ring.leads (R : Ring one other g a c) {number target r : Int} (d : (target - number) % g = 0) (hr : (a * r) % (a + c) = 1 % (a + c)) (t0 : 0 ≤ target) (t1 : target < one + other) : (number + (target - number) / g * r % (a + c) * one) % (one + other) = target := by
  have dq : g * ((target - number) / g) = target - number := Int.mul_ediv_cancel' (Int.dvd_of_emod_eq_zero d)
  generalize (target - number) / g = q at *
  have m1 : (a + c) ∣ a * r - 1 := Int.dvd_of_emod_eq_zero (by rw [Int.sub_emod, hr, Int.sub_self, Int.zero_emod])
  obtain ⟨u, hu⟩ := m1
  have m2 := Int.emod_add_mul_ediv (q * r) (a + c)
  generalize q * r % (a + c) = s at *
  generalize q * r / (a + c) = v at *
  refine emod_of (z := q * u - a * v) ?_ t0 t1
  have en := R.n
  have e1 := R.e1
  have k1 : s = q * r - (a + c) * v := by omega
  have k2 : a * r = 1 + (a + c) * u := by omega
  calc number + s * one = number + (q * r - (a + c) * v) * (g * a) := by rw [k1, e1]
    _ = number + (g * q * (a * r) - g * (a + c) * (a * v)) := by
      congr 1
      rw [Int.sub_mul]
      congr 1
      · simp only [Int.mul_left_comm, Int.mul_comm, Int.mul_assoc]
      · simp only [Int.mul_left_comm, Int.mul_comm, Int.mul_assoc]
    _ = number + (g * q * (1 + (a + c) * u) - g * (a + c) * (a * v)) := by rw [k2]
    _ = number + (g * q + g * (a + c) * (q * u) - g * (a + c) * (a * v)) := by
      rw [Int.mul_add, Int.mul_one]
      congr 2
      congr 1
      simp only [Int.mul_left_comm, Int.mul_comm, Int.mul_assoc]
    _ = target + (one + other) * (q * u - a * v) := by
      rw [dq, ← en, Int.mul_sub]
      omega
end
end Mi.N21
end
section
set_option Elab.async false
set_option linter.all false
set_option maxRecDepth 10000
set_option exponentiation.threshold 2000
/-! M21a: the functions of law k21. -/
namespace Mi.Pg
open Mi Mi.N21
local macro_rules | `(tactic| walk_at "mi") => `(tactic| simp only [Fw_cons, Fw_nil, Fw_asg, Fw_retN, Fw_ret, Fw_ex, Fw_ifs, Fw_for, Fw_whl, Fw_pass, Fw_brk, Fw_cnt, Fw_try, Fw_nx, Fw_rt, Fw_exc, Sq_nx, Sq_rt, Sq_exc, Sq_bk, Sq_ct, Tr_nx, Tr_rt, Tr_exc, Rt_nx, Rt_rt, Rt_exc, Lp_nx, Lp_ct, Lp_bk, Lp_rt, Lp_exc,
  Rw_ok, Rw_exc, Rw_err, Rw_var, Rw_int, Rw_non, Rw_bl, Rw_str, Rw_bin, Rw_neg, Rw_not, Rw_cmp, Rw_cmp1, Rw_cmp2, Rw_and, Rw_and1, Rw_and2, Rw_or, Rw_or1, Rw_or2, Rw_ite, Rw_ix, Rw_sl, Rw_opt0, Rw_opt1, Rw_tup, Rw_lst, Rw_evs0, Rw_evs1, Rw_as0, Rw_as1, Rw_as2, Rw_call, Rw_callK, Rw_app, Rw_bi, Rw_me, Rw_isi, Rw_lm, Rw_comp, Rw_fldX, Rw_irv, Rw_irr, Rw_ire, Rw_irz, Rw_ifs0, Rw_ifs1, Rw_elt, Rw_loop, Rw_turn, Rw_evT, Rw_asgv, Rw_asgt, Rw_asgs0, Rw_asgs1, Rw_asgi,
  Ck_true, Ck_false, Tq_true, Tq_false, Bw_some, Ow_some, Ov_some, b_add, b_sub, b_mul, b_fdiv, b_mod, b_pow, b_str, b_tup, bq_abs, bq_int, bi_intb, bi_lent, t_bl, t_int, t_non, c_lt, c_le, c_gt, c_ge, c_eqi, c_nei, c_eqs, c_nes, c_is, c_isnot,
  List.getElem?_cons_zero, List.getElem?_cons_succ, List.set_cons_zero, List.set_cons_succ, List.map_cons, List.map_nil, List.replicate_succ, List.replicate_zero, List.cons_append, List.nil_append, List.length_cons, List.length_nil, allD, isD_non, isD_bl, isD_int, isD_str, isD_tup, isD_rl, isD_ref, isD_glo, isD_lm, cloXs, cloX_clo, cloX_non, cloX_bl, cloX_int, cloX_str, cloX_tup, cloX_rl, cloX_ref, cloX_glo, cloX_lm, isX_non, isX_bl, isX_int, isX_str, isX_tup, isX_rl, isX_ref, isX_glo, isX_lm, isX_clo, noXs_nil, noXs_none, noXs_some, Bool.and_true, Bool.true_and, Bool.not_false, Bool.not_true, Bool.and_false, Bool.false_and, isAny, isCN, isV, decide_true, decide_false, List.all_cons, List.all_nil, ownOk, Int.reduceLT, Int.reduceLE, Int.reduceNeg, Int.reduceAdd, Int.reduceSub, Int.reduceMul, Int.reduceDiv, Int.reduceMod, Nat.reduceAdd])
section
variable {M : Mem} {Q : Val → Mem → Prop} {X : Exc → Mem → Prop}
theorem sim_clo {v : Val} (h : sim v = true) : cloX v = true := by cases v <;> first | rfl | cases h
def btw (v : Val) (a b : Int) : Bool := match v with
  | .int i => decide (a ≤ i) && decide (i ≤ b)
  | _ => false
theorem s_btw {k : Nat} {v : Val} {a b : Int} (h : sim v = true) (q : Q (.bl (btw v a b)) M) : Rw (run pl.prog (k + 2) (.fn 1) [v, .int a, .int b] M) Q X := by
  rw [Rw_fn (d := f_is_between) rfl]
  show Rw (runB _ _ f_is_between [v, .int a, .int b] M) _ _
  rw [Rw_runB]
  unfold f_is_between
  walk_at "mi"
  rw [sim_clo h]
  show Rw (run pl.prog (k + 1) (.fn 0) [v] M) _ _
  rw [Rw_fn (d := gInt) rfl]
  refine s_isint h ?_
  cases v <;> first | (cases h; done) | skip
  all_goals try exact q
  rename_i i
  show Tq (some true) _ _
  walk_at "mi"
  have q : Q (.bl (decide (a ≤ i) && decide (i ≤ b))) M := q
  refine Tq_dec (fun h1 => ?_) fun h1 => ?_
  · rw [decide_eq_true h1, Bool.true_and] at q
    exact q
  · rw [decide_eq_false h1, Bool.false_and] at q
    exact q
theorem s_need {k : Nat} {v w : Val} (h1 : sim v = true) (h2 : sim w = true) (q : if btw v 1 (10 ^ 30) then (if btw w 1 (10 ^ 30) then Q .non M else X ⟨3, [(13, .int 1)]⟩ M) else X ⟨3, [(13, .int 0)]⟩ M) :
    Rw (run pl.prog (k + 3) (.fn 4) [v, w] M) Q X := by
  rw [Rw_fn (d := f_need_periods) rfl]
  show Rw (runB _ _ f_need_periods [v, w] M) _ _
  rw [Rw_runB]
  unfold f_need_periods
  have c2 : pl.env.con 2 = some (.int (10 ^ 30)) := rfl
  have x3 : pl.env.excFs 3 = some [13] := rfl
  walk_at "mi"
  rw [Rw_con c2]
  walk_at "mi"
  rw [sim_clo h1]
  refine s_btw h1 ?_
  walk_at "mi"
  cases e1 : btw v 1 (10 ^ 30) with
  | false =>
    rw [e1] at q
    walk_at "mi"
    rw [Fw_rse x3 rfl]
    walk_at "mi"
    exact q
  | true =>
    rw [e1] at q
    have q : if btw w 1 (10 ^ 30) then Q .non M else X ⟨3, [(13, .int 1)]⟩ M := q
    walk_at "mi"
    rw [Rw_con c2]
    walk_at "mi"
    rw [sim_clo h2]
    refine s_btw h2 ?_
    walk_at "mi"
    cases e2 : btw w 1 (10 ^ 30) with
    | false =>
      rw [e2] at q
      walk_at "mi"
      rw [Fw_rse x3 rfl]
      walk_at "mi"
      exact q
    | true =>
      rw [e2] at q
      walk_at "mi"
      exact q
theorem s_inv {k : Nat} {a m : Int} (h0 : 0 < a) (h1 : 0 < m) (ha : a < 10 ^ 31) (hm : m < 10 ^ 32) (hc : Int.gcd a m = 1) (q : ∀ r, 0 ≤ r → r < m → (a * r) % m = 1 % m → Q (.int r) M) : Rw (run pl.prog (k + 1) (.fn 8) [.int a, .int m] M) Q X := by
  rw [Rw_fn (d := f_inverse) rfl]
  show Rw (runB _ _ f_inverse [.int a, .int m] M) _ _
  rw [Rw_runB]
  unfold f_inverse
  walk_at "mi"
  rw [decide_eq_true h1]
  walk_at "mi"
  have m1 := Int.emod_nonneg a (b := m) (by omega)
  have m2 := Int.emod_lt_of_pos a h1
  refine whl_inv (fun i σ M' => ∃ (x y e u w : Int) (t : Option Val), σ = [some (.int a), some (.int m), some (.int x), some (.int y), some (.int (-e * u)), some (.int (e * w)), t] ∧ M' = M ∧ 0 < x ∧ 0 ≤ y ∧ x ≤ m ∧ y ≤ m ∧ Int.gcd x y = 1 ∧ m ∣ a * (-e * u) - x ∧ m ∣ a * (e * w) - y ∧ (e = 1 ∨ e = -1) ∧ 0 ≤ u ∧ 0 ≤ w ∧ u * y + w * x = m ∧ i = y.toNat) (a % m).toNat (by omega)
    ⟨m, a % m, 1, 0, 1, none, rfl, rfl, h1, m1, Int.le_refl _, Int.le_of_lt m2, ?_, ⟨-1, by omega⟩, ⟨a / m, ?_⟩, .inl rfl, Int.le_refl _, by decide, by omega, rfl⟩ ?_
  · rw [gcd_step (Int.le_of_lt h0) (Int.le_of_lt h1)]
    exact hc
  · have := Int.emod_add_mul_ediv a m
    omega
  · intro i σ M' ⟨x, y, e, u, w, t, e1, e2, hx, hy, hxm, hym, hg, d1, d2, he, hu, hw, hs, hi⟩
    subst e1 e2
    walk_at "mi"
    by_cases hy0 : y = 0
    · subst hy0
      show Ck (decide (0 < m)) _
      rw [decide_eq_true h1]
      have x1 : x = 1 := by
        rw [Int.gcd_zero_right] at hg
        omega
      subst x1
      refine q _ (Int.emod_nonneg _ (by omega)) (Int.emod_lt_of_pos _ h1) ?_
      rw [Int.mul_emod, Int.emod_emod_of_dvd _ (Int.dvd_refl m), ← Int.mul_emod]
      exact Int.emod_eq_emod_iff_emod_sub_eq_zero.mpr (Int.emod_eq_zero_of_dvd d1)
    · have hy1 : 0 < y := by omega
      rw [show (y != 0) = true from by simp [hy0]]
      have p1 : (10 : Int) ^ 32 < 2 ^ 150 := by decide
      show Ck (divOk y) _
      have hyx : Int.gcd y (x % y) = 1 := (gcd_step (Int.le_of_lt hx) hy).trans hg
      have r1 := Int.emod_nonneg x hy0
      have r2 := Int.emod_lt_of_pos x hy1
      have dm := Int.emod_add_mul_ediv x y
      have p2 : (10 : Int) ^ 32 < 2 ^ 120 := by decide
      have hwm : w ≤ m := by
        have h5 : 0 ≤ u * y := Int.mul_nonneg hu hy
        have h6 : w * 1 ≤ w * x := Int.mul_le_mul_of_nonneg_left (by omega) hw
        omega
      have t0 : 0 ≤ x / y := Int.ediv_nonneg (Int.le_of_lt hx) hy
      have t1 : x / y ≤ x := Int.ediv_le_self y (Int.le_of_lt hx)
      rw [divOk_of 150 hy1 (by omega)]
      walk_at "mi"
      rw [mulOk_of 120 120 (by omega) (by omega), mulOk_of 120 120 (by omega) (by rcases he with rfl | rfl <;> omega)]
      generalize hq : x / y = z at *
      have em : x - z * y = x % y := by rw [Int.mul_comm]; omega
      refine ⟨(x % y).toNat, by omega, y, x % y, -e, w, u + z * w, some (.int z), ?_, trivial, hy1, r1, hym, by omega, hyx, ?_, ?_, by omega, hw, Int.add_nonneg hu (Int.mul_nonneg t0 hw), ?_, rfl⟩
      · rw [em]
        have k1 : -(-e) * w = e * w := by rw [Int.neg_neg]
        have k2 : -e * u - z * (e * w) = -e * (u + z * w) := by
          rw [Int.mul_add, Int.mul_left_comm z e w, Int.neg_mul e (z * w)]
          omega
        rw [k1, k2]
      · have k1 : -(-e) * w = e * w := by rw [Int.neg_neg]
        rw [k1]
        exact d2
      · obtain ⟨v1, hv1⟩ := d1
        obtain ⟨v2, hv2⟩ := d2
        refine ⟨v1 - z * v2, ?_⟩
        have k2 : -e * (u + z * w) = -e * u - z * (e * w) := by
          rw [Int.mul_add, Int.mul_left_comm z e w, Int.neg_mul e (z * w)]
          omega
        rw [k2, Int.mul_sub, Int.mul_sub, ← hv1, Int.mul_left_comm m z v2, ← hv2, Int.mul_sub, Int.mul_left_comm a z (e * w), ← em]
        omega
      · rw [← em, Int.add_mul, Int.mul_sub, ← hs, Int.mul_assoc z w y, Int.mul_left_comm w z y]
        omega
end
end Mi.Pg
end
section
set_option Elab.async false
set_option linter.all false
set_option maxRecDepth 10000
set_option exponentiation.threshold 2000
/-! M21b: ring_steps, ring_place, the walk. -/
namespace Mi.Pg
open Mi Mi.N21
local macro_rules | `(tactic| walk_at "mi") => `(tactic| simp only [Fw_cons, Fw_nil, Fw_asg, Fw_retN, Fw_ret, Fw_ex, Fw_ifs, Fw_for, Fw_whl, Fw_pass, Fw_brk, Fw_cnt, Fw_try, Fw_nx, Fw_rt, Fw_exc, Sq_nx, Sq_rt, Sq_exc, Sq_bk, Sq_ct, Tr_nx, Tr_rt, Tr_exc, Rt_nx, Rt_rt, Rt_exc, Lp_nx, Lp_ct, Lp_bk, Lp_rt, Lp_exc,
  Rw_ok, Rw_exc, Rw_err, Rw_var, Rw_int, Rw_non, Rw_bl, Rw_str, Rw_bin, Rw_neg, Rw_not, Rw_cmp, Rw_cmp1, Rw_cmp2, Rw_and, Rw_and1, Rw_and2, Rw_or, Rw_or1, Rw_or2, Rw_ite, Rw_ix, Rw_sl, Rw_opt0, Rw_opt1, Rw_tup, Rw_lst, Rw_evs0, Rw_evs1, Rw_as0, Rw_as1, Rw_as2, Rw_call, Rw_callK, Rw_app, Rw_bi, Rw_me, Rw_isi, Rw_lm, Rw_comp, Rw_fldX, Rw_irv, Rw_irr, Rw_ire, Rw_irz, Rw_ifs0, Rw_ifs1, Rw_elt, Rw_loop, Rw_turn, Rw_evT, Rw_asgv, Rw_asgt, Rw_asgs0, Rw_asgs1, Rw_asgi,
  Ck_true, Ck_false, Tq_true, Tq_false, Bw_some, Ow_some, Ov_some, b_add, b_sub, b_mul, b_fdiv, b_mod, b_pow, b_str, b_tup, bq_abs, bq_int, bi_intb, bi_lent, t_bl, t_int, t_non, c_lt, c_le, c_gt, c_ge, c_eqi, c_nei, c_eqs, c_nes, c_is, c_isnot,
  List.getElem?_cons_zero, List.getElem?_cons_succ, List.set_cons_zero, List.set_cons_succ, List.map_cons, List.map_nil, List.replicate_succ, List.replicate_zero, List.cons_append, List.nil_append, List.length_cons, List.length_nil, allD, isD_non, isD_bl, isD_int, isD_str, isD_tup, isD_rl, isD_ref, isD_glo, isD_lm, cloXs, cloX_clo, cloX_non, cloX_bl, cloX_int, cloX_str, cloX_tup, cloX_rl, cloX_ref, cloX_glo, cloX_lm, isX_non, isX_bl, isX_int, isX_str, isX_tup, isX_rl, isX_ref, isX_glo, isX_lm, isX_clo, noXs_nil, noXs_none, noXs_some, Bool.and_true, Bool.true_and, Bool.not_false, Bool.not_true, Bool.and_false, Bool.false_and, isAny, isCN, isV, decide_true, decide_false, List.all_cons, List.all_nil, ownOk, Int.reduceLT, Int.reduceLE, Int.reduceNeg, Int.reduceAdd, Int.reduceSub, Int.reduceMul, Int.reduceDiv, Int.reduceMod, Nat.reduceAdd])
section
variable {M : Mem} {Q : Val → Mem → Prop} {X : Exc → Mem → Prop}
theorem sim_isD {v : Val} (h : sim v = true) : v.isD = true := by cases v <;> first | rfl | cases h
def restS : List St := f_ring_steps.body.drop 2
theorem s_steps_pre {k : Nat} {v1 v2 v3 v4 : Val} (h1 : sim v1 = true) (h2 : sim v2 = true) (h3 : sim v3 = true) (h4 : sim v4 = true)
    (q : if btw v1 1 (10 ^ 30) then (if btw v2 1 (10 ^ 30) then (∀ one other, v1 = .int one → v2 = .int other → ∀ G,
      if btw v3 0 (one + other - 1) then (if btw v4 0 (one + other - 1) then (∀ number target a b, v3 = .int number → v4 = .int target →
        Fw (xss pl.env (run pl.prog (k + 3)) restS [some (.int one), some (.int other), some (.int number), some (.int target), a, b, none, none, none, none] (M ++ G)) fun r => Rt r Q X) else X ⟨5, [(13, .int 1)]⟩ (M ++ G)) else X ⟨5, [(13, .int 0)]⟩ (M ++ G)) else X ⟨3, [(13, .int 1)]⟩ M) else X ⟨3, [(13, .int 0)]⟩ M) :
    Rw (run pl.prog (k + 4) (.fn 17) [v1, v2, v3, v4] M) Q X := by
  rw [Rw_fn (d := f_ring_steps) rfl]
  show Rw (runB _ _ f_ring_steps [v1, v2, v3, v4] M) _ _
  rw [Rw_runB]
  show Fw (xss _ _ (_ :: _ :: restS) [some v1, some v2, some v3, some v4, none, none, none, none, none, none] M) _
  rw [Fw_cons]
  generalize hr : restS = rest at *
  walk_at "mi"
  rw [sim_clo h1, sim_clo h2]
  refine s_need h1 h2 ?_
  cases e1 : btw v1 1 (10 ^ 30) with
  | false =>
    rw [e1] at q
    exact q
  | true =>
  cases e2 : btw v2 1 (10 ^ 30) with
  | false =>
    rw [e1, e2] at q
    exact q
  | true =>
  rw [e1, e2] at q
  obtain ⟨one, rfl⟩ : ∃ i, v1 = .int i := by cases v1 <;> first | exact ⟨_, rfl⟩ | cases e1
  obtain ⟨other, rfl⟩ : ∃ i, v2 = .int i := by cases v2 <;> first | exact ⟨_, rfl⟩ | cases e2
  have q := q one other rfl rfl
  rw [if_pos rfl, if_pos rfl]
  rw [sim_isD h3, sim_isD h4]
  rw [show lsIt (M ++ [Ob.lst [v3, v4]]) (.ref M.length) = some (.ls M.length) by
    show (match lsOf (M ++ [Ob.lst [v3, v4]]) M.length with | some _ => some (It.ls M.length) | none => none) = _
    rw [lsOf_of (get_new M _)]]
  show Fw (forW (.enum (.ls M.length)) _ _ _ _ _ _) _
  have x5 : pl.env.excFs 5 = some [13] := rfl
  have qq := q [Ob.lst [v3, v4]]
  refine for_inv 2 (fun i σ M' => (∃ a b, σ = [some (.int one), some (.int other), some v3, some v4, a, b, none, none, none, none]) ∧ M' = M ++ [.lst [v3, v4]] ∧ (0 < i → btw v3 0 (one + other - 1) = true) ∧ (1 < i → btw v4 0 (one + other - 1) = true)) (by decide) ⟨⟨none, none, rfl⟩, rfl, fun h => by omega, fun h => by omega⟩ ?_ ?_
  · intro i σ M' hi ⟨⟨a, b, e3⟩, e4, g1, g2⟩
    subst e3 e4
    have hi2 : i = 0 ∨ i = 1 := by omega
    have it : ∀ v, [v3, v4][i]? = some v → It.item (M ++ [Ob.lst [v3, v4]]) (.enum (.ls M.length)) i = some (some (.tup [.int i, v])) := fun v hv => by
      show (match (match lsOf (M ++ [Ob.lst [v3, v4]]) M.length with | some xs => some xs[i]? | none => none) with | some (some v) => some (some (Val.tup [.int i, v])) | some none => some none | none => none) = _
      rw [lsOf_of (get_new M _)]
      show (match some ([v3, v4][i]?) with | some (some v) => some (some (Val.tup [.int i, v])) | some none => some none | none => none) = _
      rw [hv]
    rcases hi2 with rfl | rfl
    · refine ⟨_, _, it v3 rfl, rfl, ?_⟩
      walk_at "mi"
      rw [sim_clo h3]
      refine s_btw h3 ?_
      walk_at "mi"
      cases e5 : btw v3 0 (one + other - 1) with
      | false =>
        rw [e5] at qq
        walk_at "mi"
        rw [Fw_rse x5 rfl]
        walk_at "mi"
        exact qq
      | true =>
        walk_at "mi"
        exact ⟨⟨_, _, rfl⟩, trivial, fun _ => trivial, fun h => by omega⟩
    · refine ⟨_, _, it v4 rfl, rfl, ?_⟩
      have e5 := g1 (by decide)
      rw [e5] at qq
      walk_at "mi"
      rw [sim_clo h4]
      refine s_btw h4 ?_
      walk_at "mi"
      cases e6 : btw v4 0 (one + other - 1) with
      | false =>
        rw [e6] at qq
        walk_at "mi"
        rw [Fw_rse x5 rfl]
        walk_at "mi"
        exact qq
      | true =>
        walk_at "mi"
        exact ⟨⟨_, _, rfl⟩, trivial, fun _ => e5, fun _ => trivial⟩
  · intro σ M' ⟨⟨a, b, e3⟩, e4, g1, g2⟩
    subst e3 e4
    refine ⟨?_, ?_⟩
    · show (match (match lsOf (M ++ [Ob.lst [v3, v4]]) M.length with | some xs => some xs[2]? | none => none) with | some (some v) => some (some (Val.tup [.int (2 : Nat), v])) | some none => some none | none => none) = _
      rw [lsOf_of (get_new M _)]
      rfl
    · have e5 := g1 (by decide)
      have e6 := g2 (by decide)
      rw [e5, e6] at qq
      obtain ⟨number, rfl⟩ : ∃ i, v3 = .int i := by cases v3 <;> first | exact ⟨_, rfl⟩ | cases e5
      obtain ⟨target, rfl⟩ : ∃ i, v4 = .int i := by cases v4 <;> first | exact ⟨_, rfl⟩ | cases e6
      exact qq number target a b rfl rfl
theorem btw_int {i a b : Int} (h : btw (.int i) a b = true) : a ≤ i ∧ i ≤ b := by
  have h : (decide (a ≤ i) && decide (i ≤ b)) = true := h
  simpa using h
theorem int_btw {i a b : Int} (h1 : a ≤ i) (h2 : i ≤ b) : btw (.int i) a b = true := by
  show (decide (a ≤ i) && decide (i ≤ b)) = true
  simp [h1, h2]
theorem s_steps {k : Nat} {one other number target : Int} (o1 : 1 ≤ one) (o2 : one ≤ 10 ^ 30) (t1 : 1 ≤ other) (t2 : other ≤ 10 ^ 30) (n1 : 0 ≤ number) (n2 : number < one + other) (a1 : 0 ≤ target) (a2 : target < one + other)
    (q1 : (target - number) % (Int.gcd one other : Int) ≠ 0 → ∀ G, X ⟨7, [(13, .int (-1))]⟩ (M ++ G))
    (q2 : (target - number) % (Int.gcd one other : Int) = 0 → ∀ G s, 0 ≤ s → s < (one + other) / (Int.gcd one other : Int) → (number + s * one) % (one + other) = target → Q (.tup [.int (s - (number + s * one) / (one + other)), .int ((number + s * one) / (one + other))]) (M ++ G)) :
    Rw (run pl.prog (k + 4) (.fn 17) [.int one, .int other, .int number, .int target] M) Q X := by
  refine s_steps_pre rfl rfl rfl rfl ?_
  rw [int_btw o1 o2, int_btw t1 t2, if_pos rfl, if_pos rfl]
  intro one' other' e1 e2 G
  cases e1
  cases e2
  rw [int_btw n1 (by omega), int_btw a1 (by omega), if_pos rfl, if_pos rfl]
  intro number' target' a b e1 e2
  cases e1
  cases e2
  have R := ring_of (one := one) (other := other) (by omega) (by omega)
  unfold restS f_ring_steps
  simp only [List.drop_succ_cons, List.drop_zero]
  have p30 : (10 : Int) ^ 30 = 1000000000000000000000000000000 := by decide
  walk_at "mi"
  rw [Rw_fn (d := gDiv) rfl]
  refine s_gcd (by omega) (by omega) (by omega) ?_
  have g0 := R.g0
  have hgle : (Int.gcd one other : Int) ≤ one := Int.le_of_dvd (by omega) (Int.gcd_dvd_left ..)
  generalize hg : (Int.gcd one other : Int) = g at *
  have x7 : pl.env.excFs 7 = some [13] := rfl
  walk_at "mi"
  rw [decide_eq_true g0]
  walk_at "mi"
  by_cases hd : (target - number) % g = 0
  · rw [decide_eq_true hd]
    walk_at "mi"
    have p120 : (1000000000000000000000000000000 : Int) < 2 ^ 119 := by decide
    have hm := R.ndiv
    have haone : one / g ≤ one := Int.ediv_le_self g (show 0 ≤ one by omega)
    generalize one / g = a at *
    generalize other / g = c at *
    have ac0 := R.m0
    have a0 := R.a0
    have hac : a + c ≤ one + other := by
      rw [← hm]
      exact Int.ediv_le_self g (show 0 ≤ one + other by omega)
    rw [divOk_of 120 g0 (by omega)]
    walk_at "mi"
    rw [hm]
    refine s_inv (k := k + 2) a0 ac0 (by omega) (by omega) R.cop fun r r0 r1 r2 => ?_
    have dq : g * ((target - number) / g) = target - number := Int.mul_ediv_cancel' (Int.dvd_of_emod_eq_zero hd)
    have hq : ((target - number) / g).natAbs < 2 ^ 121 := by
      have := Int.natAbs_ediv_le_natAbs (target - number) g
      omega
    walk_at "mi"
    rw [mulOk_of 121 121 hq (by omega), decide_eq_true ac0]
    walk_at "mi"
    have L := R.leads (number := number) (target := target) hd r2 a1 a2
    have s0 := Int.emod_nonneg ((target - number) / g * r) (b := a + c) (by omega)
    have s1 := Int.emod_lt_of_pos ((target - number) / g * r) ac0
    generalize (target - number) / g * r % (a + c) = s at *
    rw [Rw_fn (d := f_ups_in) rfl]
    show Rw (runB _ _ f_ups_in [.int one, .int other, .int number, .int s] _) _ _
    rw [Rw_runB]
    unfold f_ups_in
    walk_at "mi"
    rw [mulOk_of 121 121 (by omega) (by omega), decide_eq_true R.n0]
    walk_at "mi"
    rw [divOk_of 121 R.n0 (by omega)]
    walk_at "mi"
    have e : (number + s * one - (number + s * one) % (one + other)) / (one + other) = (number + s * one) / (one + other) := by
      have h1 := Int.emod_add_mul_ediv (number + s * one) (one + other)
      have h2 : number + s * one - (number + s * one) % (one + other) = (one + other) * ((number + s * one) / (one + other)) := by omega
      rw [h2, Int.mul_ediv_cancel_left _ (by omega)]
    rw [e]
    exact q2 hd G s s0 (by rw [hm]; exact s1) L
  · rw [decide_eq_false hd]
    walk_at "mi"
    rw [Fw_rse x7 rfl]
    walk_at "mi"
    exact q1 hd G
theorem s_place {k : Nat} {one other : Int} {v : Val} (o1 : 1 ≤ one) (o2 : one ≤ 10 ^ 30) (t1 : 1 ≤ other) (t2 : other ≤ 10 ^ 30) (hv : sim v = true) (q : if btw v 0 (10 ^ 60) then (∀ s, v = .int s → Q (.int (s * one % (one + other))) M) else X ⟨3, [(13, .int 2)]⟩ M) :
    Rw (run pl.prog (k + 4) (.fn 18) [.int one, .int other, v] M) Q X := by
  rw [Rw_fn (d := f_ring_place) rfl]
  show Rw (runB _ _ f_ring_place [.int one, .int other, v] M) _ _
  rw [Rw_runB]
  unfold f_ring_place
  have c10 : pl.env.con 10 = some (.int (10 ^ 60)) := rfl
  have x3 : pl.env.excFs 3 = some [13] := rfl
  walk_at "mi"
  refine s_need rfl rfl ?_
  rw [int_btw o1 o2, int_btw t1 t2, if_pos rfl, if_pos rfl]
  rw [Rw_con c10]
  walk_at "mi"
  rw [sim_clo hv]
  refine s_btw hv ?_
  walk_at "mi"
  cases e : btw v 0 (10 ^ 60) with
  | false =>
    rw [e] at q
    walk_at "mi"
    rw [Fw_rse x3 rfl]
    walk_at "mi"
    exact q
  | true =>
    rw [e] at q
    obtain ⟨s, rfl⟩ : ∃ i, v = .int i := by cases v <;> first | exact ⟨_, rfl⟩ | cases e
    obtain ⟨b1, b2⟩ := btw_int e
    have p1 : (10 : Int) ^ 60 < 2 ^ 250 := by decide
    have p2 : (10 : Int) ^ 30 < 2 ^ 250 := by decide
    walk_at "mi"
    rw [mulOk_of 250 250 (by omega) (by omega), decide_eq_true (show 0 < one + other by omega)]
    exact q s rfl
end
end Mi.Pg
end
section
set_option Elab.async false
set_option linter.all false
set_option maxRecDepth 10000
set_option exponentiation.threshold 2000
/-! M21c: the law's own functions. -/
namespace Mi.Pg
open Mi Mi.N21
local macro_rules | `(tactic| walk_at "mi") => `(tactic| simp only [Fw_cons, Fw_nil, Fw_asg, Fw_retN, Fw_ret, Fw_ex, Fw_ifs, Fw_for, Fw_whl, Fw_pass, Fw_brk, Fw_cnt, Fw_try, Fw_nx, Fw_rt, Fw_exc, Sq_nx, Sq_rt, Sq_exc, Sq_bk, Sq_ct, Tr_nx, Tr_rt, Tr_exc, Rt_nx, Rt_rt, Rt_exc, Lp_nx, Lp_ct, Lp_bk, Lp_rt, Lp_exc,
  Rw_ok, Rw_exc, Rw_err, Rw_var, Rw_int, Rw_non, Rw_bl, Rw_str, Rw_bin, Rw_neg, Rw_not, Rw_cmp, Rw_cmp1, Rw_cmp2, Rw_and, Rw_and1, Rw_and2, Rw_or, Rw_or1, Rw_or2, Rw_ite, Rw_ix, Rw_sl, Rw_opt0, Rw_opt1, Rw_tup, Rw_lst, Rw_evs0, Rw_evs1, Rw_as0, Rw_as1, Rw_as2, Rw_call, Rw_callK, Rw_app, Rw_bi, Rw_me, Rw_isi, Rw_lm, Rw_comp, Rw_fldX, Rw_irv, Rw_irr, Rw_ire, Rw_irz, Rw_ifs0, Rw_ifs1, Rw_elt, Rw_loop, Rw_turn, Rw_evT, Rw_asgv, Rw_asgt, Rw_asgs0, Rw_asgs1, Rw_asgi,
  Ck_true, Ck_false, Tq_true, Tq_false, Bw_some, Ow_some, Ov_some, b_add, b_sub, b_mul, b_fdiv, b_mod, b_pow, b_str, b_tup, bq_abs, bq_int, bi_intb, bi_lent, t_bl, t_int, t_non, c_lt, c_le, c_gt, c_ge, c_eqi, c_nei, c_eqs, c_nes, c_is, c_isnot,
  List.getElem?_cons_zero, List.getElem?_cons_succ, List.set_cons_zero, List.set_cons_succ, List.map_cons, List.map_nil, List.replicate_succ, List.replicate_zero, List.cons_append, List.nil_append, List.length_cons, List.length_nil, allD, isD_non, isD_bl, isD_int, isD_str, isD_tup, isD_rl, isD_ref, isD_glo, isD_lm, cloXs, cloX_clo, cloX_non, cloX_bl, cloX_int, cloX_str, cloX_tup, cloX_rl, cloX_ref, cloX_glo, cloX_lm, isX_non, isX_bl, isX_int, isX_str, isX_tup, isX_rl, isX_ref, isX_glo, isX_lm, isX_clo, noXs_nil, noXs_none, noXs_some, Bool.and_true, Bool.true_and, Bool.not_false, Bool.not_true, Bool.and_false, Bool.false_and, isAny, isCN, isV, decide_true, decide_false, List.all_cons, List.all_nil, ownOk, Int.reduceLT, Int.reduceLE, Int.reduceNeg, Int.reduceAdd, Int.reduceSub, Int.reduceMul, Int.reduceDiv, Int.reduceMod, Nat.reduceAdd])
theorem dm_of {x n q r : Int} (h : x = n * q + r) (h0 : 0 ≤ r) (h1 : r < n) : x / n = q ∧ x % n = r := by
  have e : x % n = r := emod_of (z := q) (by omega) h0 h1
  refine ⟨?_, e⟩
  have h2 := Int.emod_add_mul_ediv x n
  have : n * (x / n) = n * q := by omega
  exact Int.eq_of_mul_eq_mul_left (by omega) this
theorem ring_go {x one other : Int} (h1 : 0 < one) (h2 : 0 < other) : (x % (one + other) + one < one + other → (x + one) % (one + other) = x % (one + other) + one ∧ (x + one) / (one + other) = x / (one + other)) ∧
    (¬ x % (one + other) + one < one + other → (x + one) % (one + other) = x % (one + other) - other ∧ (x + one) / (one + other) = x / (one + other) + 1) := by
  have a := Int.emod_add_mul_ediv x (one + other)
  have b := Int.emod_nonneg x (b := one + other) (by omega)
  have c := Int.emod_lt_of_pos x (b := one + other) (by omega)
  refine ⟨fun h => ?_, fun h => ?_⟩
  · exact (dm_of (q := x / (one + other)) (r := x % (one + other) + one) (by omega) (by omega) h).symm
  · exact (dm_of (q := x / (one + other) + 1) (r := x % (one + other) - other) (by rw [Int.mul_add]; omega) (by omega) (by omega)).symm
/-- what the walk tells -/
def DueOk (one other number target : Int) (due : Val) : Prop :=
  (due = .non ∧ (target - number) % (Int.gcd one other : Int) ≠ 0) ∨
    ∃ s, (target - number) % (Int.gcd one other : Int) = 0 ∧ 0 ≤ s ∧ s < (one + other) / (Int.gcd one other : Int) ∧ (number + s * one) % (one + other) = target ∧ due = .tup [.int (s - (number + s * one) / (one + other)), .int ((number + s * one) / (one + other))]
section
variable {M : Mem} {Q : Val → Mem → Prop} {X : Exc → Mem → Prop}
theorem s_tk {k b : Nat} {many : Int} (hB : Bx M b) (h0 : 0 < many) (h1 : many < 10 ^ 100) (q : ∀ v M', 0 ≤ v → v < many → Bx M' b → Kp b M M' → Q (.int v) M') : Rw (run pl.prog (k + 1) (.fn 15) [.ref b, .int many] M) Q X := by
  rw [Rw_fn (d := takeA) rfl]
  exact s_take hB h0 h1 q
theorem bez (m n : Nat) : ∃ u v : Int, (m : Int) * u + n * v = (Nat.gcd m n : Nat) := by
  induction m, n using Nat.gcd.induction with
  | H0 n => exact ⟨0, 1, by simp⟩
  | H1 m n hm ih =>
    obtain ⟨u, v, h⟩ := ih
    refine ⟨v - (n / m : Nat) * u, u, ?_⟩
    rw [Nat.gcd_rec, ← h]
    have e : (n : Int) = m * (n / m : Nat) + (n % m : Nat) := by
      have := Nat.div_add_mod n m
      omega
    have e2 : (n : Int) * u = m * ((n / m : Nat) * u) + (n % m : Nat) * u := by
      calc (n : Int) * u = (m * (n / m : Nat) + (n % m : Nat)) * u := by rw [← e]
        _ = _ := by rw [Int.add_mul, Int.mul_assoc]
    rw [Int.mul_sub, e2]
    omega
theorem ex_steps {one other number target : Int} (h1 : 0 < one) (h2 : 0 < other) (a1 : 0 ≤ target) (a2 : target < one + other) (hd : (target - number) % (Int.gcd one other : Int) = 0) : ∃ s, 0 ≤ s ∧ s < (one + other) / (Int.gcd one other : Int) ∧ (number + s * one) % (one + other) = target := by
  have R := ring_of h1 h2
  have hm := R.ndiv
  have m0 := R.m0
  obtain ⟨r, hr⟩ : ∃ r : Int, ((one / (Int.gcd one other : Int)) * r) % (one / (Int.gcd one other : Int) + other / (Int.gcd one other : Int)) = 1 % (one / (Int.gcd one other : Int) + other / (Int.gcd one other : Int)) := by
    have c := R.cop
    generalize one / (Int.gcd one other : Int) = a at *
    generalize other / (Int.gcd one other : Int) = b at *
    have a0 := R.a0
    obtain ⟨u, v, h⟩ := bez a.natAbs (a + b).natAbs
    have hc : (Nat.gcd a.natAbs (a + b).natAbs : Nat) = 1 := c
    rw [hc] at h
    have m0 := R.m0
    rw [Int.natAbs_of_nonneg (by omega), Int.natAbs_of_nonneg (by omega)] at h
    refine ⟨u, ?_⟩
    have : a * u = 1 + (a + b) * (-v) := by
      rw [Int.mul_neg]
      omega
    rw [this, Int.add_mul_emod_self_left]
  rw [hm]
  exact ⟨_, Int.emod_nonneg _ (by omega), Int.emod_lt_of_pos _ m0, R.leads hd hr a1 a2⟩
theorem s_walk {k : Nat} {one other number target : Int} (o1 : 1 ≤ one) (o2 : one ≤ 10 ^ 15) (t1 : 1 ≤ other) (t2 : other ≤ 10 ^ 15) (n1 : 0 ≤ number) (n2 : number < one + other) (a1 : 0 ≤ target) (a2 : target < one + other)
    (q : ∀ due, DueOk one other number target due → Q due M) : Rw (run pl.prog (k + 1) (.fn 16) [.int one, .int other, .int number, .int target] M) Q X := by
  rw [Rw_fn (d := f__law_walk) rfl]
  show Rw (runB _ _ f__law_walk [.int one, .int other, .int number, .int target] M) _ _
  rw [Rw_runB]
  unfold f__law_walk
  have p15 : (10 : Int) ^ 15 = 1000000000000000 := by decide
  walk_at "mi"
  rw [show rngOf [.int (one + other)] = some (.rng 0 1 (one + other).toNat) by
    show (match rngOk (one + other) with | true => some (It.rng 0 1 (one + other).toNat) | false => none) = _
    rw [show rngOk (one + other) = true by unfold rngOk; simp only [Bool.and_eq_true, decide_eq_true_eq]; omega]]
  show Fw (forW _ _ _ _ _ _ _) _
  refine for_inv (one + other).toNat (fun i σ M' => ∃ (at_ up down : Int) (t : Option Val), σ = [some (.int one), some (.int other), some (.int number), some (.int target), some (.int up), some (.int down), some (.int at_), t] ∧ M' = M ∧ at_ = (number + i * one) % (one + other) ∧ down = (number + i * one) / (one + other) ∧ up = i - down ∧ ∀ j : Int, 0 ≤ j → j < i → (number + j * one) % (one + other) ≠ target) (by omega) ⟨number, 0, 0, none, rfl, rfl, ?_, ?_, rfl, fun j h1 h2 => by omega⟩ ?_ ?_
  · rw [show number + ((0 : Nat) : Int) * one = number by simp]
    exact (Int.emod_eq_of_lt n1 n2).symm
  · rw [show number + ((0 : Nat) : Int) * one = number by simp]
    exact (Int.ediv_eq_zero_of_lt n1 n2).symm
  · intro i σ M' hi ⟨at_, up, down, t, e1, e2, ha, hd, hu, hj⟩
    subst e1 e2
    refine ⟨.int i, _, ?_, rfl, ?_⟩
    · show (match decide (i < (one + other).toNat) with | true => some (some (Val.int (0 + i * 1))) | false => some none) = _
      rw [decide_eq_true hi]
      simp
    · walk_at "mi"
      have e : number + ((i + 1 : Nat) : Int) * one = number + i * one + one := by
        rw [Int.natCast_add, Int.add_mul]
        simp
        omega
      obtain ⟨g1, g2⟩ := ring_go (x := number + i * one) (one := one) (other := other) (by omega) (by omega)
      refine Tq_dec (fun hat => ?_) fun hat => ?_
      · refine q _ (.inr ?_)
        have hm : (number + (i : Int) * one) % (one + other) = target := by rw [← ha]; exact hat
        have dd : (target - number) % (Int.gcd one other : Int) = 0 := by
          have h1 := Int.emod_add_mul_ediv (number + i * one) (one + other)
          have d1 : (Int.gcd one other : Int) ∣ one := Int.gcd_dvd_left ..
          have d2 : (Int.gcd one other : Int) ∣ other := Int.gcd_dvd_right ..
          have e2 : target - number = i * one - (one + other) * ((number + i * one) / (one + other)) := by omega
          rw [e2]
          exact Int.emod_eq_zero_of_dvd (Int.dvd_sub (Int.dvd_trans d1 (Int.dvd_mul_left ..)) (Int.dvd_trans (Int.dvd_add d1 d2) (Int.dvd_mul_right ..)))
        have lt : (i : Int) < (one + other) / (Int.gcd one other : Int) := by
          obtain ⟨s, s0, s1, s2⟩ := ex_steps (number := number) (by omega) (by omega) a1 a2 dd
          by_cases hlt : s < i
          · exact (hj s s0 hlt s2).elim
          · omega
        subst hd hu
        exact ⟨i, dd, by omega, lt, hm, rfl⟩
      · have nj : ∀ j : Int, 0 ≤ j → j < (i + 1 : Nat) → (number + j * one) % (one + other) ≠ target := fun j h1 h2 => by
          by_cases hlt : j < i
          · exact hj j h1 hlt
          · have : j = i := by omega
            subst this
            rw [← ha]
            exact hat
        refine Tq_dec (fun h => ?_) fun h => ?_
        · rw [ha] at h
          obtain ⟨x1, x2⟩ := g1 h
          exact ⟨_, _, _, _, rfl, trivial, by rw [e, x1, ha], by rw [e, x2]; exact hd, by omega, nj⟩
        · rw [ha] at h
          obtain ⟨x1, x2⟩ := g2 h
          exact ⟨_, _, _, _, rfl, trivial, by rw [e, x1, ha], by rw [e, x2, hd], by omega, nj⟩
  · intro σ M' ⟨at_, up, down, t, e1, e2, ha, hd, hu, hj⟩
    subst e1 e2
    refine ⟨?_, ?_⟩
    · show (match decide ((one + other).toNat < (one + other).toNat) with | true => some (some (Val.int (0 + ((one + other).toNat : Int) * 1))) | false => some none) = _
      rw [decide_eq_false (Nat.lt_irrefl _)]
    · walk_at "mi"
      refine q _ (.inl ⟨rfl, fun dd => ?_⟩)
      obtain ⟨s, s0, s1, s2⟩ := ex_steps (number := number) (by omega) (by omega) a1 a2 dd
      have := Int.ediv_le_self (Int.gcd one other : Int) (show 0 ≤ one + other by omega)
      exact hj s s0 (by omega) s2
def tErr (x : Exc) : Option Val := match x.fs with
  | [(13, v)] => if x.cls = 5 then some (.tup [.str "number", v]) else if x.cls = 3 then some (.tup [.str "count", v]) else if x.cls = 7 then some (.tup [.str "refused", v]) else none
  | _ => none
theorem s_err {k : Nat} {b : Ex} {σ : Sl} (hσ : noXs σ = true) (h : Rw (run pl.prog k (.clo [] b σ) [] M) (fun v M' => Q (.tup [.str "told"]) M') (fun x M' => (x = ⟨5, [(13, .int 0)]⟩ ∧ Q (.tup [.str "number", .int 0]) M') ∨ (x = ⟨5, [(13, .int 1)]⟩ ∧ Q (.tup [.str "number", .int 1]) M') ∨ (x = ⟨3, [(13, .int 0)]⟩ ∧ Q (.tup [.str "count", .int 0]) M') ∨
      (x = ⟨3, [(13, .int 1)]⟩ ∧ Q (.tup [.str "count", .int 1]) M') ∨ (x = ⟨3, [(13, .int 2)]⟩ ∧ Q (.tup [.str "count", .int 2]) M') ∨ (x = ⟨7, [(13, .int (-1))]⟩ ∧ Q (.tup [.str "refused", .int (-1)]) M'))) : Rw (run pl.prog (k + 1) (.fn 12) [.clo [] b σ] M) Q X := by
  rw [Rw_fn (d := f__law_error) rfl]
  show Rw (runB _ _ f__law_error [.clo [] b σ] M) _ _
  rw [Rw_runB]
  unfold f__law_error
  walk_at "mi"
  rw [show ∀ hs : List (Nm × Option Nat × List St), tryOk pl.env [some (.clo [] b σ), none] hs = (!hs.isEmpty && hs.all fun h => (pl.env.excFs h.1).isSome) from fun hs => rfl]
  show Rw (run pl.prog k (.clo [] b σ) [] M) _ _
  refine Rw_mono h (fun v M' h => ?_) fun x M' h => ?_
  · exact h
  · rcases h with ⟨rfl, h⟩ | ⟨rfl, h⟩ | ⟨rfl, h⟩ | ⟨rfl, h⟩ | ⟨rfl, h⟩ | ⟨rfl, h⟩ <;> exact h
end
end Mi.Pg
end
section
set_option Elab.async false
set_option linter.all false
set_option maxRecDepth 10000
set_option exponentiation.threshold 2000
/-! M21d: one turn of the law. -/
namespace Mi.Pg
open Mi Mi.N21
local macro_rules | `(tactic| walk_at "mi") => `(tactic| simp only [Fw_cons, Fw_nil, Fw_asg, Fw_retN, Fw_ret, Fw_ex, Fw_ifs, Fw_for, Fw_whl, Fw_pass, Fw_brk, Fw_cnt, Fw_try, Fw_nx, Fw_rt, Fw_exc, Sq_nx, Sq_rt, Sq_exc, Sq_bk, Sq_ct, Tr_nx, Tr_rt, Tr_exc, Rt_nx, Rt_rt, Rt_exc, Lp_nx, Lp_ct, Lp_bk, Lp_rt, Lp_exc,
  Rw_ok, Rw_exc, Rw_err, Rw_var, Rw_int, Rw_non, Rw_bl, Rw_str, Rw_bin, Rw_neg, Rw_not, Rw_cmp, Rw_cmp1, Rw_cmp2, Rw_and, Rw_and1, Rw_and2, Rw_or, Rw_or1, Rw_or2, Rw_ite, Rw_ix, Rw_sl, Rw_opt0, Rw_opt1, Rw_tup, Rw_lst, Rw_evs0, Rw_evs1, Rw_as0, Rw_as1, Rw_as2, Rw_call, Rw_callK, Rw_app, Rw_bi, Rw_me, Rw_isi, Rw_lm, Rw_comp, Rw_fldX, Rw_irv, Rw_irr, Rw_ire, Rw_irz, Rw_ifs0, Rw_ifs1, Rw_elt, Rw_loop, Rw_turn, Rw_evT, Rw_asgv, Rw_asgt, Rw_asgs0, Rw_asgs1, Rw_asgi,
  Ck_true, Ck_false, Tq_true, Tq_false, Bw_some, Ow_some, Ov_some, b_add, b_sub, b_mul, b_fdiv, b_mod, b_pow, b_str, b_tup, bq_abs, bq_int, bi_intb, bi_lent, t_bl, t_int, t_non, c_lt, c_le, c_gt, c_ge, c_eqi, c_nei, c_eqs, c_nes, c_is, c_isnot,
  List.getElem?_cons_zero, List.getElem?_cons_succ, List.set_cons_zero, List.set_cons_succ, List.map_cons, List.map_nil, List.replicate_succ, List.replicate_zero, List.cons_append, List.nil_append, List.length_cons, List.length_nil, allD, isD_non, isD_bl, isD_int, isD_str, isD_tup, isD_rl, isD_ref, isD_glo, isD_lm, cloXs, cloX_clo, cloX_non, cloX_bl, cloX_int, cloX_str, cloX_tup, cloX_rl, cloX_ref, cloX_glo, cloX_lm, isX_non, isX_bl, isX_int, isX_str, isX_tup, isX_rl, isX_ref, isX_glo, isX_lm, isX_clo, noXs_nil, noXs_none, noXs_some, Bool.and_true, Bool.true_and, Bool.not_false, Bool.not_true, Bool.and_false, Bool.false_and, isAny, isCN, isV, decide_true, decide_false, List.all_cons, List.all_nil, ownOk, setAll, Int.reduceLT, Int.reduceLE, Int.reduceNeg, Int.reduceAdd, Int.reduceSub, Int.reduceMul, Int.reduceDiv, Int.reduceMod, Nat.reduceAdd])
def okS : Option Val → Bool
  | some v => !v.isX
  | none => true
theorem noXs_ok {o : Option Val} {σ : Sl} (h : okS o = true) : noXs (o :: σ) = noXs σ := by
  cases o with
  | none => rfl
  | some v =>
    show (!v.isX && noXs σ) = noXs σ
    rw [show (!v.isX) = true from h, Bool.true_and]
def forB : St → List St
  | .for _ _ b => b
  | _ => []
def loopB : List St := forB (f_law.body[1]?.getD .pass)
def lbA : List St := loopB.take 6
def lbB : List St := (loopB.drop 6).take 3
def lbC : List St := loopB.drop 9
theorem lb_eq : loopB = lbA ++ (lbB ++ lbC) := rfl
theorem Fw_app {P : Env} {o : Oracle} {σ : Sl} {M : Mem} {F : Fl → Prop} : ∀ {a b : List St}, Fw (xss P o a σ M) (fun r => Sq r (fun σ M => Fw (xss P o b σ M) F) F) → Fw (xss P o (a ++ b) σ M) F := by
  intro a
  induction a generalizing σ M with
  | nil =>
    intro b h
    rw [Fw_nil] at h
    exact h
  | cons s ss ih =>
    intro b h
    rw [Fw_cons] at h
    show Fw (xss P o (s :: (ss ++ b)) σ M) F
    rw [Fw_cons]
    refine Fw_mono h fun r hr => ?_
    cases r with
    | nx σ1 M1 => exact ih hr
    | _ => exact hr
mutual
theorem leq_refl : ∀ v : Val, pln v = true → leq v v = true
  | .non, _ => by rw [leq]
  | .bl b, _ => by rw [leq]; simp
  | .int i, _ => by rw [leq]; simp
  | .str s, _ => by rw [leq]; simp
  | .tup vs, h => by
    rw [leq]
    rw [pln] at h
    exact leqs_refl vs (Bool.and_eq_true_iff.mp h).2
  | .rl _, h => by simp [pln] at h
  | .ref _, h => by simp [pln] at h
  | .glo _, h => by simp [pln] at h
  | .lm _ _ _, h => by simp [pln] at h
  | .clo _ _ _, h => by simp [pln] at h
  | .exv _ _, h => by simp [pln] at h
theorem leqs_refl : ∀ vs : List Val, plns vs = true → leqs vs vs = true
  | [], _ => by rw [leqs]; rfl
  | v :: vs, h => by
    rw [plns] at h
    obtain ⟨h1, h2⟩ := Bool.and_eq_true_iff.mp h
    rw [leqs, leq_refl v h1, leqs_refl vs h2]
    rfl
end
section
variable {M : Mem} {Q : Val → Mem → Prop} {X : Exc → Mem → Prop} {F : Fl → Prop}
theorem s_isP {k : Nat} {t e : Val} (h1 : pln t = true) (h2 : pln e = true) (h3 : dep e ≤ 2) (q : ∀ G, Q (.bl (leq t e)) (M ++ G)) : Rw (run pl.prog (k + 3) (.fn 11) [t, e] M) Q X := s_is (p := pl) (x := 11) rfl 2 k t e M Q X h1 h2 h3 q
set_option maxHeartbeats 1000000 in
theorem turnA {k b : Nat} {s : Val} {f : Nat → Option Val} (hs : s.isX = false) (hf : ∀ i, okS (f i) = true) (hB : Bx M b)
    (q : ∀ (one other number target : Int) (due heard : Val) (M' : Mem), Bx M' b → 1 ≤ one → one ≤ 20 → 1 ≤ other → other ≤ 20 → okS (some due) = true → okS (some heard) = true →
      F (.nx [some s, some (.ref b), f 2, some (.int one), some (.int other), some (.int number), some (.int target), some due, some heard, f 9, f 10, f 11, f 12, f 13, f 14, f 15, f 16, f 17, f 18, f 19, f 20, f 21, f 22, f 23] M')) :
    Fw (xss pl.env (run pl.prog (k + 8)) lbA [some s, some (.ref b), f 2, f 3, f 4, f 5, f 6, f 7, f 8, f 9, f 10, f 11, f 12, f 13, f 14, f 15, f 16, f 17, f 18, f 19, f 20, f 21, f 22, f 23] M) F := by
  unfold lbA loopB f_law
  simp only [List.getElem?_cons_succ, List.getElem?_cons_zero, Option.getD_some, forB, List.take_succ_cons, List.take_zero]
  walk_at "mi"
  refine s_tk (k := k + 7) hB (by decide) (by decide) fun v1 M1 a1 a2 B1 K1 => ?_
  walk_at "mi"
  refine s_tk (k := k + 7) B1 (by decide) (by decide) fun v2 M2 b1 b2 B2 K2 => ?_
  walk_at "mi"
  generalize h1 : (1 : Int) + v1 = one
  generalize h2 : (1 : Int) + v2 = other
  refine s_tk (k := k + 7) B2 (by omega) (by omega) fun number M3 c1 c2 B3 K3 => ?_
  walk_at "mi"
  refine s_tk (k := k + 7) B3 (by omega) (by omega) fun target M4 d1 d2 B4 K4 => ?_
  walk_at "mi"
  refine s_walk (k := k + 7) (by omega) (by omega) (by omega) (by omega) c1 c2 d1 d2 fun due hd => ?_
  have hdX : okS (some due) = true := by
    rcases hd with ⟨rfl, _⟩ | ⟨_, _, _, _, _, rfl⟩ <;> rfl
  have hdX2 : due.isX = false := by
    rcases hd with ⟨rfl, _⟩ | ⟨_, _, _, _, _, rfl⟩ <;> rfl
  have hX : noXs [some s, some (.ref b), f 2, some (.int one), some (.int other), some (.int number), some (.int target), some due, f 8, f 9, f 10, f 11, f 12, f 13, f 14, f 15, f 16, f 17, f 18, f 19, f 20, f 21, f 22, f 23] = true := by
    simp only [noXs_some, isX_int, isX_ref, noXs_ok, hf, noXs_nil, hs, hdX2, Bool.not_false, Bool.true_and]
  simp only [noXs_ok, hf, noXs_nil, hs, Bool.not_false, Bool.true_and]
  rw [noXs_some, noXs_some, noXs_some, noXs_some, noXs_some, hdX2]
  simp only [isX_int, noXs_ok, hf, noXs_nil, Bool.not_false, Bool.true_and, Ck_true]
  refine s_err (k := k + 7) hX ?_
  rw [Rw_clo]
  walk_at "mi"
  have q2 := fun (heard : Val) (M' : Mem) => q one other number target due heard M'
  refine s_steps (k := k + 2) (by omega) (by omega) (by omega) (by omega) c1 c2 d1 d2 (fun hne G => ?_) fun hd0 G s' s0 s1 s2 => ?_
  · rcases hd with ⟨rfl, _⟩ | ⟨_, hd0, _⟩
    · refine .inr (.inr (.inr (.inr (.inr ⟨rfl, ?_⟩))))
      walk_at "mi"
      refine s_isP (k := k + 5) (by decide) (by decide) (by decide) fun G2 => ?_
      rw [show leq (.tup [.str "refused", .int (-1)]) (.tup [.str "refused", .int (-1)]) = true by decide]
      walk_at "mi"
      exact q2 _ _ (B4.ext (Ext.trans ⟨G, rfl⟩ ⟨G2, rfl⟩)) (by omega) (by omega) (by omega) (by omega) rfl rfl
    · exact (hne hd0).elim
  · rcases hd with ⟨_, hne⟩ | ⟨s3, _, s4, s5, s6, rfl⟩
    · exact (hne hd0).elim
    · have R := ring_of (one := one) (other := other) (by omega) (by omega)
      have hm := R.ndiv
      have un : ∀ y : Int, 0 ≤ y → y < (one + other) / (Int.gcd one other : Int) → (number + y * one) % (one + other) = target → y = s3 := fun y y0 y1 y2 =>
        R.uniq (x := number) (by rw [y2, s6]) y0 (by rw [← hm]; exact y1) s4 (by rw [← hm]; exact s5)
      walk_at "mi"
      generalize hu : s3 - (number + s3 * one) / (one + other) = u at *
      generalize hw : (number + s3 * one) / (one + other) = w at *
      refine s_isP (k := k + 5) (by decide) (by decide) (by decide) fun G2 => ?_
      rw [show leq (.tup [.str "told"]) (.tup [.str "told"]) = true by decide]
      walk_at "mi"
      refine s_steps (k := k + 4) (by omega) (by omega) (by omega) (by omega) c1 c2 d1 d2 (fun hne G => (hne hd0).elim) fun _ G3 y y0 y1 y2 => ?_
      have := un y y0 y1 y2
      subst this
      rw [hw, hu]
      refine s_steps (k := k + 4) (by omega) (by omega) (by omega) (by omega) c1 c2 d1 d2 (fun hne G => (hne hd0).elim) fun _ G4 y' y0' y1' y2' => ?_
      have := un y' y0' y1' y2'
      subst this
      rw [hw, hu]
      walk_at "mi"
      refine s_isP (k := k + 5) (by simp [pln, plns]) (by simp [pln, plns]) (by simp [dep, deps]) fun G5 => ?_
      rw [leq_refl _ (by simp [pln, plns])]
      walk_at "mi"
      exact q2 _ _ (B4.ext (Ext.trans ⟨G, rfl⟩ (Ext.trans ⟨G2, rfl⟩ (Ext.trans ⟨G3, rfl⟩ (Ext.trans ⟨G4, rfl⟩ ⟨G5, rfl⟩))))) (by omega) (by omega) (by omega) (by omega) rfl rfl
end
end Mi.Pg
end
section
set_option Elab.async false
set_option linter.all false
set_option maxRecDepth 10000
set_option exponentiation.threshold 2000
/-! M21e: a turn's other parts. -/
namespace Mi.Pg
open Mi Mi.N21
local macro_rules | `(tactic| walk_at "mi") => `(tactic| simp only [Fw_cons, Fw_nil, Fw_asg, Fw_retN, Fw_ret, Fw_ex, Fw_ifs, Fw_for, Fw_whl, Fw_pass, Fw_brk, Fw_cnt, Fw_try, Fw_nx, Fw_rt, Fw_exc, Sq_nx, Sq_rt, Sq_exc, Sq_bk, Sq_ct, Tr_nx, Tr_rt, Tr_exc, Rt_nx, Rt_rt, Rt_exc, Lp_nx, Lp_ct, Lp_bk, Lp_rt, Lp_exc,
  Rw_ok, Rw_exc, Rw_err, Rw_var, Rw_int, Rw_non, Rw_bl, Rw_str, Rw_bin, Rw_neg, Rw_not, Rw_cmp, Rw_cmp1, Rw_cmp2, Rw_and, Rw_and1, Rw_and2, Rw_or, Rw_or1, Rw_or2, Rw_ite, Rw_ix, Rw_sl, Rw_opt0, Rw_opt1, Rw_tup, Rw_lst, Rw_evs0, Rw_evs1, Rw_as0, Rw_as1, Rw_as2, Rw_call, Rw_callK, Rw_app, Rw_bi, Rw_me, Rw_isi, Rw_lm, Rw_comp, Rw_fldX, Rw_irv, Rw_irr, Rw_ire, Rw_irz, Rw_ifs0, Rw_ifs1, Rw_elt, Rw_loop, Rw_turn, Rw_evT, Rw_asgv, Rw_asgt, Rw_asgs0, Rw_asgs1, Rw_asgi,
  Ck_true, Ck_false, Tq_true, Tq_false, Bw_some, Ow_some, Ov_some, b_add, b_sub, b_mul, b_fdiv, b_mod, b_pow, b_str, b_tup, bq_abs, bq_int, bi_intb, bi_lent, t_bl, t_int, t_non, c_lt, c_le, c_gt, c_ge, c_eqi, c_nei, c_eqs, c_nes, c_is, c_isnot,
  List.getElem?_cons_zero, List.getElem?_cons_succ, List.set_cons_zero, List.set_cons_succ, List.map_cons, List.map_nil, List.replicate_succ, List.replicate_zero, List.cons_append, List.nil_append, List.length_cons, List.length_nil, allD, isD_non, isD_bl, isD_int, isD_str, isD_tup, isD_rl, isD_ref, isD_glo, isD_lm, cloXs, cloX_clo, cloX_non, cloX_bl, cloX_int, cloX_str, cloX_tup, cloX_rl, cloX_ref, cloX_glo, cloX_lm, isX_non, isX_bl, isX_int, isX_str, isX_tup, isX_rl, isX_ref, isX_glo, isX_lm, isX_clo, noXs_nil, noXs_none, noXs_some, Bool.and_true, Bool.true_and, Bool.not_false, Bool.not_true, Bool.and_false, Bool.false_and, isAny, isCN, isV, decide_true, decide_false, List.all_cons, List.all_nil, ownOk, setAll, Int.reduceLT, Int.reduceLE, Int.reduceNeg, Int.reduceAdd, Int.reduceSub, Int.reduceMul, Int.reduceDiv, Int.reduceMod, Nat.reduceAdd])
section
variable {M : Mem} {Q : Val → Mem → Prop} {X : Exc → Mem → Prop} {F : Fl → Prop}
set_option maxHeartbeats 1000000 in
theorem turnB {k b : Nat} {s : Val} {one other : Int} {x2 x5 x6 x7 x8 x9 x10 x11 : Option Val} {f : Nat → Option Val} (hB : Bx M b) (o1 : 1 ≤ one) (o2 : one ≤ 20) (t1 : 1 ≤ other) (t2 : other ≤ 20) (h11 : okS x11 = true)
    (q : ∀ (steps at_ : Int) (t : Option Val) (M' : Mem), Bx M' b → okS t = true →
      F (.nx [some s, some (.ref b), x2, some (.int one), some (.int other), x5, x6, x7, x8, some (.int steps), some (.int at_), t, f 12, f 13, f 14, f 15, f 16, f 17, f 18, f 19, f 20, f 21, f 22, f 23] M')) :
    Fw (xss pl.env (run pl.prog (k + 8)) lbB [some s, some (.ref b), x2, some (.int one), some (.int other), x5, x6, x7, x8, x9, x10, x11, f 12, f 13, f 14, f 15, f 16, f 17, f 18, f 19, f 20, f 21, f 22, f 23] M) F := by
  unfold lbB loopB f_law
  simp only [List.getElem?_cons_succ, List.getElem?_cons_zero, Option.getD_some, forB, List.take_succ_cons, List.take_zero, List.drop_succ_cons, List.drop_zero]
  walk_at "mi"
  refine s_tk (k := k + 7) hB (by decide) (by decide) fun steps M1 a1 a2 B1 K1 => ?_
  walk_at "mi"
  rw [show rngOf [.int steps] = some (.rng 0 1 steps.toNat) by
    show (match rngOk steps with | true => some (It.rng 0 1 steps.toNat) | false => none) = _
    rw [show rngOk steps = true by unfold rngOk; simp only [Bool.and_eq_true, decide_eq_true_eq]; omega]]
  show Fw (forW _ _ _ _ _ _ _) _
  refine for_inv steps.toNat (fun i σ M' => ∃ (at_ : Int) (t : Option Val), okS t = true ∧ σ = [some s, some (.ref b), x2, some (.int one), some (.int other), x5, x6, x7, x8, some (.int steps), some (.int at_), t, f 12, f 13, f 14, f 15, f 16, f 17, f 18, f 19, f 20, f 21, f 22, f 23] ∧ M' = M1 ∧ at_ = (i * one) % (one + other)) (by omega) ⟨0, x11, h11, rfl, rfl, by simp⟩ ?_ ?_
  · intro i σ M' hi ⟨at_, t, ht, e1, e2, e3⟩
    subst e1 e2
    refine ⟨.int i, _, ?_, rfl, ?_⟩
    · show (match decide (i < steps.toNat) with | true => some (some (Val.int (0 + i * 1))) | false => some none) = _
      rw [decide_eq_true hi]
      simp
    · walk_at "mi"
      obtain ⟨g1, g2⟩ := ring_go (x := i * one) (one := one) (other := other) (by omega) (by omega)
      have e : ((i + 1 : Nat) : Int) * one = i * one + one := by
        rw [Int.natCast_add, Int.add_mul]
        simp
      refine Tq_dec (fun h => ?_) fun h => ?_
      · rw [e3] at h
        exact ⟨_, _, rfl, rfl, trivial, by rw [e, (g1 h).1, e3]⟩
      · rw [e3] at h
        exact ⟨_, _, rfl, rfl, trivial, by rw [e, (g2 h).1, e3]⟩
  · intro σ M' ⟨at_, t, ht, e1, e2, e3⟩
    subst e1 e2
    rw [show ((steps.toNat : Nat) : Int) = steps by omega] at e3
    refine ⟨?_, ?_⟩
    · show (match decide (steps.toNat < steps.toNat) with | true => some (some (Val.int (0 + (steps.toNat : Int) * 1))) | false => some none) = _
      rw [decide_eq_false (Nat.lt_irrefl _)]
    · walk_at "mi"
      have pl1 : ∀ {Q : Val → Mem → Prop} {X : Exc → Mem → Prop}, Q (.int at_) M' → Rw (run pl.prog (k + 8) (.fn 18) [.int one, .int other, .int steps] M') Q X := fun {Q X} h => by
        refine s_place (k := k + 4) o1 (by omega) t1 (by omega) rfl ?_
        rw [int_btw a1 (by omega), if_pos rfl]
        intro s' e
        cases e
        rw [← e3]
        exact h
      refine pl1 ?_
      walk_at "mi"
      refine pl1 ?_
      walk_at "mi"
      refine s_isP (k := k + 5) (by simp [pln, plns]) (by simp [pln, plns]) (by simp [dep, deps]) fun G5 => ?_
      rw [leq_refl _ (by simp [pln, plns])]
      walk_at "mi"
      exact q _ _ _ _ (B1.ext ⟨G5, rfl⟩) ht
set_option maxHeartbeats 1000000 in
theorem turnC {k b : Nat} {s : Val} {one other : Int} {x2 x5 x6 x7 x8 x9 x10 x11 x12 : Option Val} {f : Nat → Option Val} (hB : Bx M b) (o1 : 1 ≤ one) (o2 : one ≤ 20) (t1 : 1 ≤ other) (t2 : other ≤ 20)
    (q : ∀ (shared : Int) (M' : Mem), Bx M' b →
      F (.nx [some s, some (.ref b), x2, some (.int one), some (.int other), x5, x6, x7, x8, x9, x10, x11, some (.int shared), f 13, f 14, f 15, f 16, f 17, f 18, f 19, f 20, f 21, f 22, f 23] M')) :
    Fw (xss pl.env (run pl.prog (k + 8)) lbC [some s, some (.ref b), x2, some (.int one), some (.int other), x5, x6, x7, x8, x9, x10, x11, x12, f 13, f 14, f 15, f 16, f 17, f 18, f 19, f 20, f 21, f 22, f 23] M) F := by
  unfold lbC loopB f_law
  simp only [List.getElem?_cons_succ, List.getElem?_cons_zero, Option.getD_some, forB, List.drop_succ_cons, List.drop_zero]
  walk_at "mi"
  rw [Rw_fn (d := gNow) rfl]
  refine s_now (by omega) (by omega) (by omega) (by omega) ?_
  walk_at "mi"
  have R := ring_of (one := one) (other := other) (by omega) (by omega)
  have hm := R.ndiv
  have hn := R.n
  have e1 := R.e1
  have g0 := R.g0
  have hg : (Int.gcd one other : Int) ≤ one := Int.le_of_dvd (by omega) (Int.gcd_dvd_left ..)
  generalize (Int.gcd one other : Int) = g at *
  rw [divOk_of 20 g0 (by omega)]
  have hle : (one + other) / g ≤ one + other := Int.ediv_le_self g (show 0 ≤ one + other by omega)
  have hge : 0 ≤ (one + other) / g := Int.ediv_nonneg (by omega) (by omega)
  walk_at "mi"
  rw [show powOk 10 6 = true by decide]
  walk_at "mi"
  refine s_tk (k := k + 7) hB (by decide) (by decide) fun v M1 a1 a2 B1 K1 => ?_
  have p6 : (10 : Int) ^ (Int.toNat 6) = 1000000 := by decide
  rw [p6] at a2
  walk_at "mi"
  rw [mulOk_of 20 30 (by omega) (by omega)]
  walk_at "mi"
  have b1 : 0 ≤ (one + other) / g * v := Int.mul_nonneg hge a1
  have b2 : (one + other) / g * v ≤ 40 * v := Int.mul_le_mul_of_nonneg_right (by omega) a1
  refine s_place (k := k + 4) o1 (by omega) t1 (by omega) rfl ?_
  rw [int_btw b1 (by omega), if_pos rfl]
  intro s' e
  cases e
  have z : (one + other) / g * v * one % (one + other) = 0 := by
    rw [hm]
    refine Int.emod_eq_zero_of_dvd ⟨v * (one / g), ?_⟩
    have e2 : g * (one / g) = one := by rw [← e1]
    calc (one / g + other / g) * v * one = (one / g + other / g) * v * (g * (one / g)) := by rw [e2]
      _ = g * (one / g + other / g) * (v * (one / g)) := by simp only [Int.mul_assoc, Int.mul_left_comm, Int.mul_comm]
      _ = (one + other) * (v * (one / g)) := by rw [← hn]
  rw [z]
  walk_at "mi"
  refine s_isP (k := k + 5) (by simp [pln, plns]) (by simp [pln, plns]) (by simp [dep, deps]) fun G5 => ?_
  rw [leq_refl _ (by simp [pln, plns])]
  walk_at "mi"
  exact q _ _ (B1.ext ⟨G5, rfl⟩)
theorem noXs_get : ∀ {L : Sl}, noXs L = true → ∀ i : Nat, okS ((L[i]?).getD none) = true
  | [], _, i => by simp [okS]
  | o :: L, h, 0 => by
    cases o with
    | none => rfl
    | some v => exact (Bool.and_eq_true_iff.mp (show (!v.isX && noXs L) = true from h)).1
  | o :: L, h, i + 1 => by
    have : noXs L = true := by
      cases o with
      | none => exact h
      | some v => exact (Bool.and_eq_true_iff.mp (show (!v.isX && noXs L) = true from h)).2
    simpa using noXs_get this i
def slots (s : Val) (b : Nat) (f : Nat → Option Val) : Sl := [some s, some (.ref b), f 2, f 3, f 4, f 5, f 6, f 7, f 8, f 9, f 10, f 11, f 12, f 13, f 14, f 15, f 16, f 17, f 18, f 19, f 20, f 21, f 22, f 23]
theorem turn {k b : Nat} {s : Val} {f : Nat → Option Val} (hs : s.isX = false) (hf : ∀ i, okS (f i) = true) (hB : Bx M b)
    (q : ∀ (f : Nat → Option Val) (M' : Mem), (∀ i, okS (f i) = true) → Bx M' b → F (.nx (slots s b f) M')) : Fw (xss pl.env (run pl.prog (k + 8)) loopB (slots s b f) M) F := by
  rw [lb_eq]
  refine Fw_app (turnA hs hf hB fun one other number target due heard M1 B1 o1 o2 t1 t2 k1 k2 => ?_)
  show Fw _ _
  refine Fw_app (turnB B1 o1 o2 t1 t2 (hf 11) fun steps at_ t M2 B2 ht => ?_)
  show Fw _ _
  refine turnC B2 o1 o2 t1 t2 fun shared M3 B3 => ?_
  refine q (fun i => ([some s, some (.ref b), f 2, some (.int one), some (.int other), some (.int number), some (.int target), some due, some heard, some (.int steps), some (.int at_), t, some (.int shared), f 13, f 14, f 15, f 16, f 17, f 18, f 19, f 20, f 21, f 22, f 23][i]?).getD none) M3 (noXs_get ?_) B3
  have h1 : due.isX = false := by simpa [okS] using k1
  have h2 : heard.isX = false := by simpa [okS] using k2
  simp only [noXs_some, isX_int, isX_ref, noXs_ok, hf, ht, noXs_nil, hs, h1, h2, Bool.not_false, Bool.true_and]
end
end Mi.Pg
end
section
set_option Elab.async false
set_option linter.all false
set_option maxRecDepth 10000
set_option exponentiation.threshold 2000
/-! M21f: the law's great ring. -/
namespace Mi.Pg
open Mi Mi.N21
local macro_rules | `(tactic| walk_at "mi") => `(tactic| simp only [Fw_cons, Fw_nil, Fw_asg, Fw_retN, Fw_ret, Fw_ex, Fw_ifs, Fw_for, Fw_whl, Fw_pass, Fw_brk, Fw_cnt, Fw_try, Fw_nx, Fw_rt, Fw_exc, Sq_nx, Sq_rt, Sq_exc, Sq_bk, Sq_ct, Tr_nx, Tr_rt, Tr_exc, Rt_nx, Rt_rt, Rt_exc, Lp_nx, Lp_ct, Lp_bk, Lp_rt, Lp_exc,
  Rw_ok, Rw_exc, Rw_err, Rw_var, Rw_int, Rw_non, Rw_bl, Rw_str, Rw_bin, Rw_neg, Rw_not, Rw_cmp, Rw_cmp1, Rw_cmp2, Rw_and, Rw_and1, Rw_and2, Rw_or, Rw_or1, Rw_or2, Rw_ite, Rw_ix, Rw_sl, Rw_opt0, Rw_opt1, Rw_tup, Rw_lst, Rw_evs0, Rw_evs1, Rw_as0, Rw_as1, Rw_as2, Rw_call, Rw_callK, Rw_app, Rw_bi, Rw_me, Rw_isi, Rw_lm, Rw_comp, Rw_fldX, Rw_irv, Rw_irr, Rw_ire, Rw_irz, Rw_ifs0, Rw_ifs1, Rw_elt, Rw_loop, Rw_turn, Rw_evT, Rw_asgv, Rw_asgt, Rw_asgs0, Rw_asgs1, Rw_asgi,
  Ck_true, Ck_false, Tq_true, Tq_false, Bw_some, Ow_some, Ov_some, b_add, b_sub, b_mul, b_fdiv, b_mod, b_pow, b_str, b_tup, bq_abs, bq_int, bi_intb, bi_lent, t_bl, t_int, t_non, c_lt, c_le, c_gt, c_ge, c_eqi, c_nei, c_eqs, c_nes, c_is, c_isnot,
  List.getElem?_cons_zero, List.getElem?_cons_succ, List.set_cons_zero, List.set_cons_succ, List.map_cons, List.map_nil, List.replicate_succ, List.replicate_zero, List.cons_append, List.nil_append, List.length_cons, List.length_nil, allD, isD_non, isD_bl, isD_int, isD_str, isD_tup, isD_rl, isD_ref, isD_glo, isD_lm, cloXs, cloX_clo, cloX_non, cloX_bl, cloX_int, cloX_str, cloX_tup, cloX_rl, cloX_ref, cloX_glo, cloX_lm, isX_non, isX_bl, isX_int, isX_str, isX_tup, isX_rl, isX_ref, isX_glo, isX_lm, isX_clo, noXs_nil, noXs_none, noXs_some, Bool.and_true, Bool.true_and, Bool.not_false, Bool.not_true, Bool.and_false, Bool.false_and, isAny, isCN, isV, decide_true, decide_false, List.all_cons, List.all_nil, ownOk, setAll, Int.reduceLT, Int.reduceLE, Int.reduceNeg, Int.reduceAdd, Int.reduceSub, Int.reduceMul, Int.reduceDiv, Int.reduceMod, Nat.reduceAdd])
def lawP : List St := (f_law.body.drop 2).take 8
def lawQ : List St := f_law.body.drop 10
theorem law_eq : f_law.body.drop 2 = lawP ++ lawQ := rfl
theorem item_tup {M : Mem} {xs : List Val} {i : Int} : item M (.tup xs) (.int i) = L2.atI xs i := rfl
theorem atI_one {x y : Val} {xs : List Val} : L2.atI (x :: y :: xs) 1 = some y := by
  unfold L2.atI L2.ixN
  simp
  rw [if_pos (by omega)]
  rfl
theorem great_ring {great less steps y g a c : Int} (R : Ring great less g a c) (h0 : 0 ≤ steps) (hy0 : 0 ≤ y) (hy1 : y < a + c) (hy : (0 + y * great) % (great + less) = steps * great % (great + less)) : y = steps % (a + c) := by
  have m0 := R.m0
  refine R.uniq (x := 0) ?_ hy0 hy1 (Int.emod_nonneg _ (by omega)) (Int.emod_lt_of_pos _ m0)
  rw [hy]
  have e := Int.emod_add_mul_ediv steps (a + c)
  have e1 := R.e1
  have en := R.n
  have : steps * great = 0 + steps % (a + c) * great + (great + less) * (steps / (a + c) * a) := by
    calc steps * great = (steps % (a + c) + (a + c) * (steps / (a + c))) * great := by rw [e]
      _ = steps % (a + c) * great + (a + c) * (steps / (a + c)) * great := Int.add_mul ..
      _ = steps % (a + c) * great + (a + c) * (steps / (a + c)) * (g * a) := by rw [← e1]
      _ = 0 + steps % (a + c) * great + g * (a + c) * (steps / (a + c) * a) := by
        rw [Int.zero_add]
        congr 1
        simp only [Int.mul_assoc, Int.mul_left_comm, Int.mul_comm]
      _ = _ := by rw [← en]
  rw [this, Int.add_mul_emod_self_left]
theorem ring_back {great less y y2 place g a c : Int} (R : Ring great less g a c) (hy0 : 0 < y) (hy1 : y < a + c) (hp : place = (0 + y * great) % (great + less)) (z0 : 0 ≤ y2) (z1 : y2 < a + c) (hz : (place + y2 * great) % (great + less) = 0) :
    y2 = a + c - y ∧ (place + y2 * great) / (great + less) = a - (0 + y * great) / (great + less) := by
  have e := Int.emod_add_mul_ediv (0 + y * great) (great + less)
  have e1 := R.e1
  have en := R.n
  have n0 := R.n0
  have key : place + (a + c - y) * great = (great + less) * (a - (0 + y * great) / (great + less)) := by
    have k1 : (a + c - y) * great = (a + c) * great - y * great := Int.sub_mul ..
    have k2 : (a + c) * great = (great + less) * a := by
      calc (a + c) * great = (a + c) * (g * a) := by rw [← e1]
        _ = g * (a + c) * a := by simp only [Int.mul_assoc, Int.mul_left_comm, Int.mul_comm]
        _ = _ := by rw [← en]
    rw [k1, k2, Int.mul_sub]
    omega
  have y2e : y2 = a + c - y := by
    refine R.uniq (x := place) ?_ z0 z1 (by omega) (by omega)
    rw [hz, key]
    exact (Int.emod_eq_zero_of_dvd (Int.dvd_mul_right ..)).symm
  refine ⟨y2e, ?_⟩
  rw [y2e, key, Int.mul_ediv_cancel_left _ (by omega)]
section
variable {M : Mem} {Q : Val → Mem → Prop} {X : Exc → Mem → Prop} {F : Fl → Prop}
set_option maxHeartbeats 2000000 in
theorem partP {k b : Nat} {s : Val} {f : Nat → Option Val} (hs : s.isX = false) (hf : ∀ i, okS (f i) = true) (hB : Bx M b)
    (q : ∀ (f : Nat → Option Val) (M' : Mem), (∀ i, okS (f i) = true) → Bx M' b → F (.nx (slots s b f) M')) : Fw (xss pl.env (run pl.prog (k + 8)) lawP (slots s b f) M) F := by
  unfold lawP f_law slots
  simp only [List.drop_succ_cons, List.drop_zero, List.take_succ_cons, List.take_zero]
  walk_at "mi"
  rw [show powOk 10 29 = true by decide]
  walk_at "mi"
  rw [show powOk 10 9 = true by decide]
  walk_at "mi"
  have p9 : (10 : Int) ^ (Int.toNat 9) = 1000000000 := by decide
  rw [p9]
  refine s_tk (k := k + 7) hB (by decide) (by decide) fun v1 M1 a1 a2 B1 K1 => ?_
  walk_at "mi"
  rw [show powOk 10 28 = true by decide]
  walk_at "mi"
  refine s_tk (k := k + 7) B1 (by decide) (by decide) fun v2 M2 b1 b2 B2 K2 => ?_
  walk_at "mi"
  have p29 : (10 : Int) ^ (Int.toNat 29) = 100000000000000000000000000000 := by decide
  have p28 : (10 : Int) ^ (Int.toNat 28) = 10000000000000000000000000000 := by decide
  rw [p29, p28]
  generalize hgr : (100000000000000000000000000000 : Int) + v1 = great
  generalize hle : (10000000000000000000000000000 : Int) + v2 = less
  rw [show powOk 10 15 = true by decide]
  walk_at "mi"
  have p15 : (10 : Int) ^ (Int.toNat 15) = 1000000000000000 := by decide
  rw [p15]
  refine s_tk (k := k + 7) B2 (by decide) (by decide) fun steps M3 c1 c2 B3 K3 => ?_
  walk_at "mi"
  rw [Rw_fn (d := gNow) rfl]
  have p90 : (10 : Int) ^ 90 > 1000000000000000000000000000000000000000 := by decide
  refine s_now (by omega) (by omega) (by omega) (by omega) ?_
  walk_at "mi"
  have R := ring_of (one := great) (other := less) (by omega) (by omega)
  have gd1 : (Int.gcd great less : Int) ∣ great := Int.gcd_dvd_left ..
  have gd2 : (Int.gcd great less : Int) ∣ less := Int.gcd_dvd_right ..
  have g0 := R.g0
  have hgl : (Int.gcd great less : Int) ≤ great := Int.le_of_dvd (by omega) gd1
  have p30 : (10 : Int) ^ 30 = 1000000000000000000000000000000 := by decide
  have p60 : (10 : Int) ^ 60 > 1000000000000000 := by decide
  refine s_place (k := k + 4) (by omega) (by omega) (by omega) (by omega) rfl ?_
  rw [int_btw c1 (by omega), if_pos rfl]
  intro s' e
  cases e
  walk_at "mi"
  have hm := R.ndiv
  have hod := R.odiv
  have hcd := R.cdiv
  have n0 := R.n0
  have m0 := R.m0
  have q1 := Int.emod_nonneg (steps * great) (b := great + less) (by omega)
  have q2 := Int.emod_lt_of_pos (steps * great) n0
  have dvp : (Int.gcd great less : Int) ∣ steps * great % (great + less) := by
    have e := Int.emod_add_mul_ediv (steps * great) (great + less)
    have e2 : steps * great % (great + less) = steps * great - (great + less) * (steps * great / (great + less)) := by omega
    rw [e2]
    exact Int.dvd_sub (Int.dvd_trans gd1 (Int.dvd_mul_left ..)) (Int.dvd_trans (Int.dvd_add gd1 gd2) (Int.dvd_mul_right ..))
  have p120 : (2 : Int) ^ 120 > 1000000000000000000000000000000 := by decide
  rw [divOk_of 120 g0 (by omega)]
  walk_at "mi"
  refine s_steps (k := k + 4) (by omega) (by omega) (by omega) (by omega) (Int.le_refl _) (by omega) q1 q2 (fun hne G => (hne (by rw [Int.sub_zero]; exact Int.emod_eq_zero_of_dvd dvp)).elim) fun _ G y y0 y1 y2 => ?_
  walk_at "mi"
  rw [hm] at y1
  have ye := great_ring R c1 y0 y1 y2
  have mle : great / (Int.gcd great less : Int) + less / (Int.gcd great less : Int) ≤ great + less := by
    rw [← hm]
    exact Int.ediv_le_self _ (by omega)
  rw [hm]
  have a0 := R.a0
  have c0 := R.c0
  have ale : great / (Int.gcd great less : Int) ≤ great := Int.ediv_le_self _ (by omega)
  have cle : less / (Int.gcd great less : Int) ≤ less := Int.ediv_le_self _ (by omega)
  generalize great / (Int.gcd great less : Int) = a at *
  generalize less / (Int.gcd great less : Int) = c at *
  generalize hG : (Int.gcd great less : Int) = g at *
  have eD := Int.emod_add_mul_ediv (0 + y * great) (great + less)
  have es := Int.emod_add_mul_ediv steps (a + c)
  have ys : y = steps - steps / (a + c) * (a + c) := by
    rw [Int.mul_comm (steps / (a + c))]
    omega
  have yg0 : 0 ≤ y * great := Int.mul_nonneg y0 (by omega)
  have yg1 : y * great ≤ 1000000000000000000000000000000 * 1000000000000000000000000000000 := Int.mul_le_mul (by omega) (by omega) (by omega) (by decide)
  have D0 : 0 ≤ (0 + y * great) / (great + less) := Int.ediv_nonneg (by omega) (by omega)
  have D1 : (0 + y * great) / (great + less) ≤ 0 + y * great := Int.ediv_le_self _ (by omega)
  have hback := fun (z : Int) (h : 0 < y) => ring_back (y2 := z) R h y1 y2.symm
  generalize hplace : steps * great % (great + less) = place at *
  generalize hD : (0 + y * great) / (great + less) = D at *
  have p230 : (2 : Int) ^ 230 > 1000000000000000000000000000000 * 1000000000000000000000000000000 * 4 := by decide
  have r0 : 0 ≤ steps / (a + c) := Int.ediv_nonneg c1 (by omega)
  have r1 : steps / (a + c) ≤ steps := Int.ediv_le_self _ c1
  rw [divOk_of 230 m0 (by omega), mulOk_of 230 230 (by omega) (by omega), show decide (y - D + D = steps - steps / (a + c) * (a + c)) = true from decide_eq_true (by omega)]
  walk_at "mi"
  rw [mulOk_of 230 230 (by omega) (by omega), mulOk_of 230 230 (by omega) (by omega)]
  have hA : (y - D) * great - D * less = place := by
    have e1 : (y - D) * great = y * great - D * great := Int.sub_mul ..
    have e2 : (great + less) * D = D * great + D * less := by rw [Int.add_mul, Int.mul_comm great, Int.mul_comm less]
    omega
  rw [show decide ((y - D) * great - D * less = place) = true from decide_eq_true hA]
  walk_at "mi"
  refine s_steps (k := k + 4) (by omega) (by omega) (by omega) (by omega) q1 q2 (Int.le_refl _) (by omega) (fun hne G => ?_) fun _ G2 z z0 z1 z2 => ?_
  · rw [hG] at hne
    exact (hne (by rw [Int.zero_sub]; exact Int.emod_eq_zero_of_dvd (Int.dvd_neg.mpr dvp))).elim
  · rw [hG, hm] at z1
    rw [← ys]
    have ext : Ext M3 (M3 ++ G ++ G2) := ⟨G ++ G2, (List.append_assoc ..)⟩
    have hN : ∀ v : Val, v.isX = false → noXs [some s, some (.ref b), f 2, f 3, f 4, f 5, f 6, f 7, f 8, some (.int steps), f 10, f 11, some (.int g), some (.int great), some (.int less), some (.int place), some (.int (a + c)), some (.int (y - D)), some (.int D), some v, f 20, f 21, f 22, f 23] = true := fun v hv => by
      simp only [noXs_some, isX_int, isX_ref, noXs_ok, hf, noXs_nil, hs, hv, Bool.not_false, Bool.true_and]
    have fin : ∀ (v : Val) (M' : Mem), v.isX = false → Bx M' b → F (.nx [some s, some (.ref b), f 2, f 3, f 4, f 5, f 6, f 7, f 8, some (.int steps), f 10, f 11, some (.int g), some (.int great), some (.int less), some (.int place), some (.int (a + c)), some (.int (y - D)), some (.int D), some v, f 20, f 21, f 22, f 23] M') := fun v M' hv hb' =>
      q (fun i => ([some s, some (.ref b), f 2, f 3, f 4, f 5, f 6, f 7, f 8, some (.int steps), f 10, f 11, some (.int g), some (.int great), some (.int less), some (.int place), some (.int (a + c)), some (.int (y - D)), some (.int D), some v, f 20, f 21, f 22, f 23][i]?).getD none) M' (noXs_get (hN v hv)) hb'
    by_cases hy : y = 0
    · rw [decide_eq_true hy]
      walk_at "mi"
      exact fin _ _ rfl (B3.ext ext)
    · rw [decide_eq_false hy]
      obtain ⟨w1, w2⟩ := hback z (by omega) z0 z1 z2
      walk_at "mi"
      simp only [item_tup, atI_zero, atI_one, Ow_some]
      walk_at "mi"
      rw [divOk_of 230 g0 (by omega)]
      walk_at "mi"
      rw [w2, w1]
      refine s_isP (k := k + 5) (by simp [pln, plns]) (by simp [pln, plns]) (by simp [dep, deps]) fun G5 => ?_
      rw [show leq (.tup [.int (y - D + (a + c - y - (a - D))), .int (D + (a - D))]) (.tup [.int c, .int a]) = true by
        rw [show y - D + (a + c - y - (a - D)) = c by omega, show D + (a - D) = a by omega]
        exact leq_refl _ (by simp [pln, plns])]
      walk_at "mi"
      exact fin _ _ rfl (B3.ext (Ext.trans ext ⟨G5, rfl⟩))
end
end Mi.Pg
end
section
set_option Elab.async false
set_option linter.all false
set_option maxRecDepth 10000
set_option exponentiation.threshold 2000
/-! M21g: the law's wrong things, its end. -/
namespace Mi.Pg
open Mi Mi.N21
local macro_rules | `(tactic| walk_at "mi") => `(tactic| try simp only [Fw_cons, Fw_nil, Fw_asg, Fw_retN, Fw_ret, Fw_ex, Fw_ifs, Fw_for, Fw_whl, Fw_pass, Fw_brk, Fw_cnt, Fw_try, Fw_nx, Fw_rt, Fw_exc, Sq_nx, Sq_rt, Sq_exc, Sq_bk, Sq_ct, Tr_nx, Tr_rt, Tr_exc, Rt_nx, Rt_rt, Rt_exc, Lp_nx, Lp_ct, Lp_bk, Lp_rt, Lp_exc,
  Rw_ok, Rw_exc, Rw_err, Rw_var, Rw_int, Rw_non, Rw_bl, Rw_str, Rw_bin, Rw_neg, Rw_not, Rw_cmp, Rw_cmp1, Rw_cmp2, Rw_and, Rw_and1, Rw_and2, Rw_or, Rw_or1, Rw_or2, Rw_ite, Rw_ix, Rw_sl, Rw_opt0, Rw_opt1, Rw_tup, Rw_lst, Rw_evs0, Rw_evs1, Rw_as0, Rw_as1, Rw_as2, Rw_call, Rw_callK, Rw_app, Rw_bi, Rw_me, Rw_isi, Rw_lm, Rw_comp, Rw_fldX, Rw_irv, Rw_irr, Rw_ire, Rw_irz, Rw_ifs0, Rw_ifs1, Rw_elt, Rw_loop, Rw_turn, Rw_evT, Rw_asgv, Rw_asgt, Rw_asgs0, Rw_asgs1, Rw_asgi,
  Ck_true, Ck_false, Tq_true, Tq_false, Bw_some, Ow_some, Ov_some, b_add, b_sub, b_mul, b_fdiv, b_mod, b_pow, b_str, b_tup, bq_abs, bq_int, bi_intb, bi_lent, t_bl, t_int, t_non, c_lt, c_le, c_gt, c_ge, c_eqi, c_nei, c_eqs, c_nes, c_is, c_isnot,
  List.getElem?_cons_zero, List.getElem?_cons_succ, List.set_cons_zero, List.set_cons_succ, List.map_cons, List.map_nil, List.replicate_succ, List.replicate_zero, List.cons_append, List.nil_append, List.length_cons, List.length_nil, allD, isD_non, isD_bl, isD_int, isD_str, isD_tup, isD_rl, isD_ref, isD_glo, isD_lm, cloXs, cloX_clo, cloX_non, cloX_bl, cloX_int, cloX_str, cloX_tup, cloX_rl, cloX_ref, cloX_glo, cloX_lm, isX_non, isX_bl, isX_int, isX_str, isX_tup, isX_rl, isX_ref, isX_glo, isX_lm, isX_clo, noXs_nil, noXs_none, noXs_some, Bool.and_true, Bool.true_and, Bool.not_false, Bool.not_true, Bool.and_false, Bool.false_and, isAny, isCN, isV, decide_true, decide_false, List.all_cons, List.all_nil, ownOk, setAll, Int.reduceLT, Int.reduceLE, Int.reduceNeg, Int.reduceAdd, Int.reduceSub, Int.reduceMul, Int.reduceDiv, Int.reduceMod, Nat.reduceAdd])
theorem sim_isX {v : Val} (h : sim v = true) : v.isX = false := by cases v <;> first | rfl | cases h
theorem itOf_ref {M : Mem} {n : Nat} {xs : List Val} (h : M[n]? = some (.lst xs)) : itOf M (.ref n) = some (.ls n) := by
  show (match lsOf M n with | some _ => some (It.ls n) | none => none) = _
  rw [lsOf_of h]
theorem item_ls {M : Mem} {n i : Nat} {xs : List Val} (h : M[n]? = some (.lst xs)) : It.item M (.ls n) i = some xs[i]? := by
  show (match lsOf M n with | some xs => some xs[i]? | none => none) = _
  rw [lsOf_of h]
section
variable {M : Mem} {Q : Val → Mem → Prop} {X : Exc → Mem → Prop} {F : Fl → Prop}
theorem s_place_bad {k : Nat} {v1 v2 v3 : Val} (h1 : sim v1 = true) (h2 : sim v2 = true) (h3 : sim v3 = true) (hb : (btw v1 1 (10 ^ 30) && btw v2 1 (10 ^ 30)) = false) (q : if btw v1 1 (10 ^ 30) then X ⟨3, [(13, .int 1)]⟩ M else X ⟨3, [(13, .int 0)]⟩ M) :
    Rw (run pl.prog (k + 4) (.fn 18) [v1, v2, v3] M) Q X := by
  rw [Rw_fn (d := f_ring_place) rfl]
  show Rw (runB _ _ f_ring_place [v1, v2, v3] M) _ _
  rw [Rw_runB]
  unfold f_ring_place
  walk_at "mi"
  rw [sim_clo h1, sim_clo h2]
  refine s_need h1 h2 ?_
  cases e1 : btw v1 1 (10 ^ 30) with
  | false =>
    rw [e1] at q
    exact q
  | true =>
    rw [e1] at q hb
    have e2 : btw v2 1 (10 ^ 30) = false := hb
    rw [e2]
    exact q
def wrongA : List Val := [.non, .int 0, .int (-1), .int (10 ^ 30 + 1), .bl true, .str "3"]
def inA : List St := forB (f_law.body[10]?.getD .pass)
/-- a lambda that refuses as the two do -/
def LamBad (l : Val) : Prop := ∃ ps b, l = .lm 24 ps b ∧ ∀ (k : Nat) (v1 v2 : Val) (M : Mem) (Q : Val → Mem → Prop) (X : Exc → Mem → Prop), sim v1 = true → sim v2 = true → (btw v1 1 (10 ^ 30) && btw v2 1 (10 ^ 30)) = false → (if btw v1 1 (10 ^ 30) then X ⟨3, [(13, .int 1)]⟩ M else X ⟨3, [(13, .int 0)]⟩ M) →
  Rw (run pl.prog (k + 5) (.clo ps b (List.replicate 24 none)) [v1, v2] M) Q X
theorem lamS_bad : LamBad (.lm 24 [3, 4] (.call 17 [.ex (.var 3), .ex (.var 4), .ex (.lit (.non)), .ex (.lit (.non))])) := by
  refine ⟨_, _, rfl, fun k v1 v2 M Q X h1 h2 hb q => ?_⟩
  rw [Rw_clo]
  walk_at "mi"
  rw [sim_clo h1, sim_clo h2]
  refine s_steps_pre (k := k) h1 h2 rfl rfl ?_
  cases e1 : btw v1 1 (10 ^ 30) with
  | false =>
    rw [e1] at q
    exact q
  | true =>
    rw [e1] at q hb
    have e2 : btw v2 1 (10 ^ 30) = false := hb
    rw [e2]
    exact q
theorem lamP_bad : LamBad (.lm 24 [22, 23] (.call 18 [.ex (.var 22), .ex (.var 23), .ex (.lit (.non))])) := by
  refine ⟨_, _, rfl, fun k v1 v2 M Q X h1 h2 hb q => ?_⟩
  rw [Rw_clo]
  walk_at "mi"
  rw [sim_clo h1, sim_clo h2]
  exact s_place_bad (k := k) h1 h2 rfl hb q
set_option maxHeartbeats 2000000 in
theorem key {k b : Nat} {s bad l : Val} {f : Nat → Option Val} (hs : s.isX = false) (hf : ∀ i, okS (f i) = true) (h1 : sim bad = true) (h2 : btw bad 1 (10 ^ 30) = false) (hl : LamBad l)
    (q : ∀ G, F (.nx [some s, some (.ref b), f 2, f 3, f 4, f 5, f 6, f 7, f 8, f 9, f 10, f 11, f 12, f 13, f 14, f 15, f 16, f 17, f 18, f 19, some bad, some l, f 22, f 23] (M ++ G))) :
    Fw (xss pl.env (run pl.prog (k + 8)) (forB (inA[0]?.getD .pass)) [some s, some (.ref b), f 2, f 3, f 4, f 5, f 6, f 7, f 8, f 9, f 10, f 11, f 12, f 13, f 14, f 15, f 16, f 17, f 18, f 19, some bad, some l, f 22, f 23] M) F := by
  obtain ⟨ps, bd, rfl, call⟩ := hl
  have hbX := sim_isX h1
  have hN : noXs [some s, some (.ref b), f 2, f 3, f 4, f 5, f 6, f 7, f 8, f 9, f 10, f 11, f 12, f 13, f 14, f 15, f 16, f 17, f 18, f 19, some bad, some (.lm 24 ps bd), f 22, f 23] = true := by
    simp only [noXs_some, isX_ref, isX_lm, noXs_ok, hf, noXs_nil, hs, hbX, Bool.not_false, Bool.true_and]
  unfold inA f_law
  simp only [List.getElem?_cons_succ, List.getElem?_cons_zero, Option.getD_some, forB]
  walk_at "mi"
  try simp only [noXs_some, isX_lm, noXs_ok, hf, noXs_nil, hs, hbX, Bool.not_false, Bool.true_and, Ck_true]
  refine s_err (k := k + 7) hN ?_
  rw [Rw_clo]
  walk_at "mi"
  rw [sim_clo h1]
  refine call (k + 1) bad .non M _ _ h1 rfl (by rw [h2]; rfl) ?_
  rw [h2]
  refine .inr (.inr (.inl ⟨rfl, ?_⟩))
  walk_at "mi"
  refine s_isP (k := k + 5) (by decide) (by decide) (by decide) fun G => ?_
  rw [show leq (.tup [.str "count", .int 0]) (.tup [.str "count", .int 0]) = true by decide]
  walk_at "mi"
  try simp only [noXs_some, isX_lm, noXs_ok, hf, noXs_nil, hs, hbX, Bool.not_false, Bool.true_and, Ck_true]
  refine s_err (k := k + 7) hN ?_
  rw [Rw_clo]
  walk_at "mi"
  rw [sim_clo h1]
  refine call (k + 1) (.int 3) bad _ _ _ rfl h1 (by rw [h2, Bool.and_false]) ?_
  rw [show btw (.int 3) 1 (10 ^ 30) = true by decide]
  refine .inr (.inr (.inr (.inl ⟨rfl, ?_⟩)))
  walk_at "mi"
  refine s_isP (k := k + 5) (by decide) (by decide) (by decide) fun G2 => ?_
  rw [show leq (.tup [.str "count", .int 1]) (.tup [.str "count", .int 1]) = true by decide]
  walk_at "mi"
  rw [List.append_assoc]
  exact q (G ++ G2)
set_option maxHeartbeats 2000000 in
theorem badA {k b : Nat} {s bad : Val} {f : Nat → Option Val} (hs : s.isX = false) (hf : ∀ i, okS (f i) = true) (h1 : sim bad = true) (h2 : btw bad 1 (10 ^ 30) = false) (h20 : f 20 = some bad)
    (q : ∀ (f : Nat → Option Val) (M' : Mem), (∀ i, okS (f i) = true) → Ext M M' → F (.nx (slots s b f) M')) : Fw (xss pl.env (run pl.prog (k + 8)) inA (slots s b f) M) F := by
  unfold inA f_law slots
  simp only [List.getElem?_cons_succ, List.getElem?_cons_zero, Option.getD_some, forB]
  walk_at "mi"
  rw [itOf_ref (get_new M _)]
  show Fw (forW _ _ _ _ _ _ _) _
  rw [h20]
  have hbX := sim_isX h1
  generalize hl1 : Val.lm 24 [3, 4] _ = l1
  generalize hl2 : Val.lm 24 [22, 23] _ = l2
  have hN : ∀ x21 : Option Val, okS x21 = true → noXs [some s, some (.ref b), f 2, f 3, f 4, f 5, f 6, f 7, f 8, f 9, f 10, f 11, f 12, f 13, f 14, f 15, f 16, f 17, f 18, f 19, some bad, x21, f 22, f 23] = true := fun x21 hx => by
    simp only [noXs_some, isX_ref, noXs_ok, hf, hx, noXs_nil, hs, hbX, Bool.not_false, Bool.true_and]
  refine for_inv 2 (fun i σ M' => ∃ x21, okS x21 = true ∧ σ = [some s, some (.ref b), f 2, f 3, f 4, f 5, f 6, f 7, f 8, f 9, f 10, f 11, f 12, f 13, f 14, f 15, f 16, f 17, f 18, f 19, some bad, x21, f 22, f 23] ∧ Ext (M ++ [Ob.lst [l1, l2]]) M') (by decide) ⟨f 21, hf 21, rfl, Ext.refl _⟩ ?_ ?_
  · intro i σ M' hi ⟨x21, hx, e1, e2⟩
    subst e1
    obtain ⟨G, rfl⟩ := e2
    have hi2 : i = 0 ∨ i = 1 := by omega
    have it : It.item (M ++ [Ob.lst [l1, l2]] ++ G) (.ls M.length) i = some [l1, l2][i]? := item_ls (Ext.get ⟨G, rfl⟩ (get_new M _))
    rcases hi2 with rfl | rfl
    · refine ⟨l1, _, it, rfl, ?_⟩
      exact key hs hf h1 h2 (by rw [← hl1]; exact lamS_bad) fun G2 => ⟨some l1, by rw [← hl1]; rfl, rfl, Ext.trans ⟨G, rfl⟩ ⟨G2, rfl⟩⟩
    · refine ⟨l2, _, it, rfl, ?_⟩
      exact key hs hf h1 h2 (by rw [← hl2]; exact lamP_bad) fun G2 => ⟨some l2, by rw [← hl2]; rfl, rfl, Ext.trans ⟨G, rfl⟩ ⟨G2, rfl⟩⟩
  · intro σ M' ⟨x21, hx, e1, e2⟩
    subst e1
    obtain ⟨G, rfl⟩ := e2
    refine ⟨?_, ?_⟩
    · rw [item_ls (Ext.get ⟨G, rfl⟩ (get_new M _))]
      rfl
    · refine q (fun i => ([some s, some (.ref b), f 2, f 3, f 4, f 5, f 6, f 7, f 8, f 9, f 10, f 11, f 12, f 13, f 14, f 15, f 16, f 17, f 18, f 19, some bad, x21, f 22, f 23][i]?).getD none) _ (noXs_get (hN _ hx)) (Ext.trans (Ext.one _ _) ⟨G, rfl⟩)
end
end Mi.Pg
end
section
set_option Elab.async false
set_option linter.all false
set_option maxRecDepth 10000
set_option exponentiation.threshold 2000
/-! M21h: the law. -/
namespace Mi.Pg
open Mi Mi.N21
local macro_rules | `(tactic| walk_at "mi") => `(tactic| try simp only [Fw_cons, Fw_nil, Fw_asg, Fw_retN, Fw_ret, Fw_ex, Fw_ifs, Fw_for, Fw_whl, Fw_pass, Fw_brk, Fw_cnt, Fw_try, Fw_nx, Fw_rt, Fw_exc, Sq_nx, Sq_rt, Sq_exc, Sq_bk, Sq_ct, Tr_nx, Tr_rt, Tr_exc, Rt_nx, Rt_rt, Rt_exc, Lp_nx, Lp_ct, Lp_bk, Lp_rt, Lp_exc,
  Rw_ok, Rw_exc, Rw_err, Rw_var, Rw_int, Rw_non, Rw_bl, Rw_str, Rw_bin, Rw_neg, Rw_not, Rw_cmp, Rw_cmp1, Rw_cmp2, Rw_and, Rw_and1, Rw_and2, Rw_or, Rw_or1, Rw_or2, Rw_ite, Rw_ix, Rw_sl, Rw_opt0, Rw_opt1, Rw_tup, Rw_lst, Rw_evs0, Rw_evs1, Rw_as0, Rw_as1, Rw_as2, Rw_call, Rw_callK, Rw_app, Rw_bi, Rw_me, Rw_isi, Rw_lm, Rw_comp, Rw_fldX, Rw_irv, Rw_irr, Rw_ire, Rw_irz, Rw_ifs0, Rw_ifs1, Rw_elt, Rw_loop, Rw_turn, Rw_evT, Rw_asgv, Rw_asgt, Rw_asgs0, Rw_asgs1, Rw_asgi,
  Ck_true, Ck_false, Tq_true, Tq_false, Bw_some, Ow_some, Ov_some, b_add, b_sub, b_mul, b_fdiv, b_mod, b_pow, b_str, b_tup, bq_abs, bq_int, bi_intb, bi_lent, t_bl, t_int, t_non, c_lt, c_le, c_gt, c_ge, c_eqi, c_nei, c_eqs, c_nes, c_is, c_isnot,
  List.getElem?_cons_zero, List.getElem?_cons_succ, List.set_cons_zero, List.set_cons_succ, List.map_cons, List.map_nil, List.replicate_succ, List.replicate_zero, List.cons_append, List.nil_append, List.length_cons, List.length_nil, allD, isD_non, isD_bl, isD_int, isD_str, isD_tup, isD_rl, isD_ref, isD_glo, isD_lm, cloXs, cloX_clo, cloX_non, cloX_bl, cloX_int, cloX_str, cloX_tup, cloX_rl, cloX_ref, cloX_glo, cloX_lm, isX_non, isX_bl, isX_int, isX_str, isX_tup, isX_rl, isX_ref, isX_glo, isX_lm, isX_clo, noXs_nil, noXs_none, noXs_some, Bool.and_true, Bool.true_and, Bool.not_false, Bool.not_true, Bool.and_false, Bool.false_and, isAny, isCN, isV, decide_true, decide_false, List.all_cons, List.all_nil, ownOk, setAll, Int.reduceLT, Int.reduceLE, Int.reduceNeg, Int.reduceAdd, Int.reduceSub, Int.reduceMul, Int.reduceDiv, Int.reduceMod, Nat.reduceAdd])
section
variable {M : Mem} {Q : Val → Mem → Prop} {X : Exc → Mem → Prop} {F : Fl → Prop}
def outA : List St := (f_law.body.drop 10).take 1
def outB : List St := (f_law.body.drop 11).take 1
def outC : List St := f_law.body.drop 12
theorem lawQ_eq : lawQ = outA ++ (outB ++ outC) := rfl
set_option maxHeartbeats 2000000 in
theorem partA {k b : Nat} {s : Val} {f : Nat → Option Val} (hs : s.isX = false) (hf : ∀ i, okS (f i) = true)
    (q : ∀ (f : Nat → Option Val) (M' : Mem), (∀ i, okS (f i) = true) → F (.nx (slots s b f) M')) : Fw (xss pl.env (run pl.prog (k + 8)) outA (slots s b f) M) F := by
  show Fw (xss pl.env (run pl.prog (k + 8)) [.for (.var 20) (.val (.lst [.lit .non, .lit (.int 0), .neg (.lit (.int 1)), .bin .add (.bin .pow (.lit (.int 10)) (.lit (.int 30))) (.lit (.int 1)), .lit (.bl true), .lit (.str "3")])) inA] (slots s b f) M) F
  walk_at "mi"
  rw [show powOk 10 30 = true by decide]
  walk_at "mi"
  rw [itOf_ref (get_new M _)]
  show Fw (forW _ _ _ _ _ _ _) _
  generalize hls : [Val.non, Val.int 0, Val.int (-1), Val.int (10 ^ Int.toNat 30 + 1), Val.bl true, Val.str (PySem.Str.ofString "3")] = ls
  have hall : ∀ (i : Nat) (v : Val), ls[i]? = some v → sim v = true ∧ btw v 1 (10 ^ 30) = false := by
    intro i v e
    rw [← hls] at e
    have hi : i < 6 := (List.getElem?_eq_some_iff.mp e).1
    rcases (show i = 0 ∨ i = 1 ∨ i = 2 ∨ i = 3 ∨ i = 4 ∨ i = 5 by omega) with rfl | rfl | rfl | rfl | rfl | rfl <;> (simp at e; subst e; exact ⟨rfl, by decide⟩)
  have hlen : ls.length = 6 := by rw [← hls]; rfl
  refine for_inv 6 (fun i σ M' => ∃ f, (∀ i, okS (f i) = true) ∧ σ = slots s b f ∧ Ext (M ++ [Ob.lst ls]) M') (by decide) ⟨f, hf, rfl, Ext.refl _⟩ ?_ ?_
  · intro i σ M' hi ⟨f1, hf1, e1, e2⟩
    subst e1
    have g : ls[i]? = some ls[i] := List.getElem?_eq_getElem (by omega)
    obtain ⟨a1, a2⟩ := hall i _ g
    generalize ls[i] = v at *
    refine ⟨v, slots s b (fun j => if j = 20 then some v else f1 j), by rw [item_ls (e2.get (get_new M _)), g], rfl, ?_⟩
    refine badA hs (fun j => ?_) a1 a2 (if_pos rfl) fun f2 M2 h2 x2 => ⟨f2, h2, rfl, e2.trans x2⟩
    by_cases hj : j = 20
    · rw [if_pos hj]
      show (!v.isX) = true
      rw [sim_isX a1]
      rfl
    · rw [if_neg hj]
      exact hf1 j
  · intro σ M' ⟨f1, hf1, e1, e2⟩
    subst e1
    refine ⟨?_, q f1 M' hf1⟩
    rw [item_ls (e2.get (get_new M _)), List.getElem?_eq_none (by omega)]
def inB : List St := forB (f_law.body[11]?.getD .pass)
set_option maxHeartbeats 2000000 in
theorem badB {k b : Nat} {s bad : Val} {f : Nat → Option Val} (hs : s.isX = false) (hf : ∀ i, okS (f i) = true) (h1 : sim bad = true) (h2 : btw bad 0 7 = false) (h20 : f 20 = some bad)
    (q : ∀ (M' : Mem), Ext M M' → F (.nx (slots s b f) M')) : Fw (xss pl.env (run pl.prog (k + 8)) inB (slots s b f) M) F := by
  have hbX := sim_isX h1
  have hN : noXs [some s, some (.ref b), f 2, f 3, f 4, f 5, f 6, f 7, f 8, f 9, f 10, f 11, f 12, f 13, f 14, f 15, f 16, f 17, f 18, f 19, some bad, f 21, f 22, f 23] = true := by
    simp only [noXs_some, isX_ref, noXs_ok, hf, noXs_nil, hs, hbX, Bool.not_false, Bool.true_and]
  have b3 : btw (.int 3) 1 (10 ^ 30) = true := by decide
  have b5 : btw (.int 5) 1 (10 ^ 30) = true := by decide
  unfold slots at q ⊢
  rw [h20] at q ⊢
  unfold inB f_law
  simp only [List.getElem?_cons_succ, List.getElem?_cons_zero, Option.getD_some, forB]
  walk_at "mi"
  simp only [noXs_some, isX_lm, noXs_ok, hf, noXs_nil, hs, hbX, Bool.not_false, Bool.true_and, Ck_true]
  refine s_err (k := k + 7) hN ?_
  rw [Rw_clo]
  walk_at "mi"
  rw [sim_clo h1]
  refine s_steps_pre (k := k + 2) rfl rfl h1 rfl ?_
  rw [b3, b5, if_pos rfl, if_pos rfl]
  intro one other e1 e2 G
  cases e1
  cases e2
  rw [show btw bad 0 (3 + 5 - 1) = false from h2]
  refine .inl ⟨rfl, ?_⟩
  walk_at "mi"
  refine s_isP (k := k + 5) (by decide) (by decide) (by decide) fun G1 => ?_
  rw [show leq (.tup [.str "number", .int 0]) (.tup [.str "number", .int 0]) = true by decide]
  walk_at "mi"
  try simp only [noXs_some, isX_lm, noXs_ok, hf, noXs_nil, hs, hbX, Bool.not_false, Bool.true_and, Ck_true]
  refine s_err (k := k + 7) hN ?_
  rw [Rw_clo]
  walk_at "mi"
  rw [sim_clo h1]
  refine s_steps_pre (k := k + 2) rfl rfl rfl h1 ?_
  rw [b3, b5, if_pos rfl, if_pos rfl]
  intro one other e1 e2 G2
  cases e1
  cases e2
  rw [show btw (.int 0) 0 (3 + 5 - 1) = true by decide, show btw bad 0 (3 + 5 - 1) = false from h2]
  refine .inr (.inl ⟨rfl, ?_⟩)
  walk_at "mi"
  refine s_isP (k := k + 5) (by decide) (by decide) (by decide) fun G3 => ?_
  rw [show leq (.tup [.str "number", .int 1]) (.tup [.str "number", .int 1]) = true by decide]
  walk_at "mi"
  exact q _ (Ext.trans ⟨G, rfl⟩ (Ext.trans ⟨G1, rfl⟩ (Ext.trans ⟨G2, rfl⟩ ⟨G3, rfl⟩)))
set_option maxHeartbeats 2000000 in
theorem partB {k b : Nat} {s : Val} {f : Nat → Option Val} (hs : s.isX = false) (hf : ∀ i, okS (f i) = true)
    (q : ∀ (f : Nat → Option Val) (M' : Mem), (∀ i, okS (f i) = true) → F (.nx (slots s b f) M')) : Fw (xss pl.env (run pl.prog (k + 8)) outB (slots s b f) M) F := by
  show Fw (xss pl.env (run pl.prog (k + 8)) [.for (.var 20) (.val (.lst [.lit .non, .neg (.lit (.int 1)), .lit (.int 8), .lit (.bl true)])) inB] (slots s b f) M) F
  walk_at "mi"
  rw [itOf_ref (get_new M _)]
  show Fw (forW _ _ _ _ _ _ _) _
  generalize hls : [Val.non, Val.int (-1), Val.int 8, Val.bl true] = ls
  have hall : ∀ (i : Nat) (v : Val), ls[i]? = some v → sim v = true ∧ btw v 0 7 = false := by
    intro i v e
    rw [← hls] at e
    have hi : i < 4 := (List.getElem?_eq_some_iff.mp e).1
    rcases (show i = 0 ∨ i = 1 ∨ i = 2 ∨ i = 3 by omega) with rfl | rfl | rfl | rfl <;> (simp at e; subst e; exact ⟨rfl, by decide⟩)
  have hlen : ls.length = 4 := by rw [← hls]; rfl
  refine for_inv 4 (fun i σ M' => ∃ f, (∀ i, okS (f i) = true) ∧ σ = slots s b f ∧ Ext (M ++ [Ob.lst ls]) M') (by decide) ⟨f, hf, rfl, Ext.refl _⟩ ?_ ?_
  · intro i σ M' hi ⟨f1, hf1, e1, e2⟩
    subst e1
    have g : ls[i]? = some ls[i] := List.getElem?_eq_getElem (by omega)
    obtain ⟨a1, a2⟩ := hall i _ g
    generalize ls[i] = v at *
    have hf2 : ∀ j, okS ((fun j => if j = 20 then some v else f1 j) j) = true := fun j => by
      show okS (if j = 20 then some v else f1 j) = true
      by_cases hj : j = 20
      · rw [if_pos hj]
        show (!v.isX) = true
        rw [sim_isX a1]
        rfl
      · rw [if_neg hj]
        exact hf1 j
    refine ⟨v, slots s b (fun j => if j = 20 then some v else f1 j), by rw [item_ls (e2.get (get_new M _)), g], rfl, ?_⟩
    exact badB hs hf2 a1 a2 (if_pos rfl) fun M2 x2 => ⟨_, hf2, rfl, e2.trans x2⟩
  · intro σ M' ⟨f1, hf1, e1, e2⟩
    subst e1
    refine ⟨?_, q f1 M' hf1⟩
    rw [item_ls (e2.get (get_new M _)), List.getElem?_eq_none (by omega)]
set_option maxHeartbeats 2000000 in
theorem s_all {k b n : Nat} {s : Val} {f : Nat → Option Val} {xs : List Val} (hs : s.isX = false) (hf : ∀ i, okS (f i) = true) (hx : M[n]? = some (.lst xs)) (hlen : xs.length ≤ 100) (hall : ∀ (i : Nat) (v : Val), xs[i]? = some v → sim v = true ∧ btw v 0 (10 ^ 60) = false)
    (q : ∀ M', Ext M M' → Q (.bl true) M') : Rw (run pl.prog (k + 8) (.fn 20) [.clo [20] (.call 18 [.ex (.lit (.int 3)), .ex (.lit (.int 5)), .ex (.var 20)]) (slots s b f), .ref n, .tup [.str "count", .int 2]] M) Q X := by
  rw [Rw_fn (d := f__law_all) rfl]
  show Rw (runB _ _ f__law_all [_, _, _] M) _ _
  rw [Rw_runB]
  unfold f__law_all
  have hN : noXs (slots s b f) = true := by
    unfold slots
    simp only [noXs_some, isX_ref, noXs_ok, hf, noXs_nil, hs, Bool.not_false, Bool.true_and]
  walk_at "mi"
  rw [itOf_ref hx]
  show Fw (forW _ _ _ _ _ _ _) _
  refine for_inv xs.length (fun i σ M' => ∃ t : Option Val, σ = [some (.clo [20] (.call 18 [.ex (.lit (.int 3)), .ex (.lit (.int 5)), .ex (.var 20)]) (slots s b f)), some (.ref n), some (.tup [.str "count", .int 2]), t] ∧ Ext M M') (by omega) ⟨none, rfl, Ext.refl _⟩ ?_ ?_
  · intro i σ M' hi ⟨t, e1, e2⟩
    subst e1
    have g : xs[i]? = some xs[i] := List.getElem?_eq_getElem hi
    obtain ⟨a1, a2⟩ := hall i _ g
    generalize xs[i] = v at *
    refine ⟨v, _, by rw [item_ls (e2.get hx), g], rfl, ?_⟩
    have vX := sim_isX a1
    walk_at "mi"
    simp only [noXs_some, noXs_nil, vX, Bool.not_false, Bool.true_and, Ck_true]
    refine s_err (k := k + 6) (by simp only [noXs_some, isX_clo, isX_ref, isX_tup, noXs_nil, vX, Bool.not_false, Bool.true_and]) ?_
    rw [Rw_clo]
    walk_at "mi"
    rw [sim_clo a1]
    show Rw (run pl.prog (k + 5) (.clo [20] _ (slots s b f)) [v] M') _ _
    rw [Rw_clo]
    unfold slots
    walk_at "mi"
    rw [sim_clo a1]
    refine s_place (k := k) (by decide) (by decide) (by decide) (by decide) a1 ?_
    rw [a2]
    refine .inr (.inr (.inr (.inr (.inl ⟨rfl, ?_⟩))))
    walk_at "mi"
    refine s_isP (k := k + 4) (by decide) (by decide) (by decide) fun G1 => ?_
    rw [show leq (.tup [.str "count", .int 2]) (.tup [.str "count", .int 2]) = true by decide]
    walk_at "mi"
    exact ⟨_, rfl, e2.trans ⟨G1, rfl⟩⟩
  · intro σ M' ⟨t, e1, e2⟩
    subst e1
    refine ⟨?_, ?_⟩
    · rw [item_ls (e2.get hx), List.getElem?_eq_none (Nat.le_refl _)]
    · walk_at "mi"
      exact q _ e2
theorem fix_steps {k : Nat} {one other number target y : Int} (o1 : 1 ≤ one) (o2 : one ≤ 10 ^ 30) (t1 : 1 ≤ other) (t2 : other ≤ 10 ^ 30) (n1 : 0 ≤ number) (n2 : number < one + other) (a1 : 0 ≤ target) (a2 : target < one + other) (hd : (target - number) % (Int.gcd one other : Int) = 0)
    (hy : ∀ s : Int, 0 ≤ s → s < (one + other) / (Int.gcd one other : Int) → (number + s * one) % (one + other) = target → s = y) (q : ∀ G, Q (.tup [.int (y - (number + y * one) / (one + other)), .int ((number + y * one) / (one + other))]) (M ++ G)) :
    Rw (run pl.prog (k + 4) (.fn 17) [.int one, .int other, .int number, .int target] M) Q X :=
  s_steps o1 o2 t1 t2 n1 n2 a1 a2 (fun h => (h hd).elim) fun _ G s s0 s1 s2 => by
    have := hy s s0 s1 s2
    subst this
    exact q G
set_option maxHeartbeats 2000000 in
theorem partC {k b : Nat} {s : Val} {f : Nat → Option Val} (hs : s.isX = false) (hf : ∀ i, okS (f i) = true) (q : ∀ σ M', F (.rt (.bl true) σ M')) : Fw (xss pl.env (run pl.prog (k + 8)) outC (slots s b f) M) F := by
  unfold outC f_law
  simp only [List.drop_succ_cons, List.drop_zero]
  have hN : noXs (slots s b f) = true := by
    unfold slots
    simp only [noXs_some, isX_ref, noXs_ok, hf, noXs_nil, hs, Bool.not_false, Bool.true_and]
  walk_at "mi"
  rw [show powOk 10 60 = true by decide]
  walk_at "mi"
  rw [hN]
  walk_at "mi"
  refine s_all (k := k) hs hf (get_new M _) (by decide) (fun i v e => ?_) fun M1 e1 => ?_
  · have hi : i < 4 := (List.getElem?_eq_some_iff.mp e).1
    rcases (show i = 0 ∨ i = 1 ∨ i = 2 ∨ i = 3 by omega) with rfl | rfl | rfl | rfl <;> (simp at e; subst e; exact ⟨rfl, by decide⟩)
  · walk_at "mi"
    refine fix_steps (k := k + 4) (y := 5) (by decide) (by decide) (by decide) (by decide) (by decide) (by decide) (by decide) (by decide) (by decide) (fun s h0 h1 h2 => ?_) fun G1 => ?_
    · rw [show ((3 + 5 : Int) / (Int.gcd 3 5 : Int)) = 8 by decide] at h1
      omega
    walk_at "mi"
    refine s_place (k := k + 4) (by decide) (by decide) (by decide) (by decide) rfl ?_
    rw [show btw (.int 5) 0 (10 ^ 60) = true by decide, if_pos rfl]
    intro s' e
    cases e
    walk_at "mi"
    refine fix_steps (k := k + 4) (y := 1) (by decide) (by decide) (by decide) (by decide) (by decide) (by decide) (by decide) (by decide) (by decide) (fun s h0 h1 h2 => ?_) fun G2 => ?_
    · rw [show ((4 + 4 : Int) / (Int.gcd 4 4 : Int)) = 2 by decide] at h1
      omega
    walk_at "mi"
    refine fix_steps (k := k + 4) (y := 0) (by decide) (by decide) (by decide) (by decide) (by decide) (by decide) (by decide) (by decide) (by decide) (fun s h0 h1 h2 => ?_) fun G3 => ?_
    · rw [show ((1 + 1 : Int) / (Int.gcd 1 1 : Int)) = 2 by decide] at h1
      omega
    walk_at "mi"
    refine s_isP (k := k + 5) (by decide) (by decide) (by decide) fun G4 => ?_
    rw [show leq _ _ = true by decide]
    walk_at "mi"
    exact q _ _
end
theorem maths (ns : List Int) (h : ns.length ≤ 63) (hb : ∀ z ∈ ns, PySem.Builtin.Int.intBits z ≤ 1048576) : ∃ M', run pl.prog (11 + 1) (.fn lawN) [.rl (ns.map Val.int)] [] = .ok (.bl true) M' := by
  have main : Rw (run pl.prog (11 + 1) (.fn 21) [.rl (ns.map Val.int)] []) (fun v _ => v = .bl true) noX := by
    rw [Rw_fn (d := f_law) rfl]
    show Rw (runB _ _ f_law [_] []) _ _
    rw [Rw_runB]
    show Fw (xss pl.env (run pl.prog 11) (.asg (.var 1) (.call 14 [.ex (.var 0)]) :: .for (.var 2) (.range [.lit (.int 12)]) loopB :: (lawP ++ lawQ)) [some (.rl (ns.map Val.int)), none, none, none, none, none, none, none, none, none, none, none, none, none, none, none, none, none, none, none, none, none, none, none] []) _
    rw [Fw_cons]
    generalize hP : lawP ++ lawQ = rest
    generalize hL : loopB = lp
    walk_at "mi"
    rw [Rw_fn (d := boxA) rfl]
    refine s_box h hb fun b M1 B1 => ?_
    walk_at "mi"
    show Fw (forW (.rng 0 1 12) _ _ _ _ _ _) _
    refine for_inv 12 (fun i σ M' => ∃ f, (∀ i, okS (f i) = true) ∧ σ = slots (.rl (ns.map Val.int)) b f ∧ Bx M' b) (by decide) ⟨fun _ => none, fun _ => rfl, rfl, B1⟩ ?_ ?_
    · intro i σ M' hi ⟨f1, hf1, e1, B2⟩
      subst e1
      refine ⟨.int i, slots (.rl (ns.map Val.int)) b (fun j => if j = 2 then some (.int i) else f1 j), ?_, rfl, ?_⟩
      · show (match decide (i < 12) with | true => some (some (Val.int (0 + (i : Int) * 1))) | false => some none) = _
        rw [decide_eq_true hi]
        simp
      · rw [← hL]
        refine turn (k := 3) rfl (fun j => ?_) B2 fun f2 M2 h2 B3 => ⟨f2, h2, rfl, B3⟩
        by_cases hj : j = 2
        · rw [if_pos hj]
          rfl
        · rw [if_neg hj]
          exact hf1 j
    · intro σ M' ⟨f1, hf1, e1, B2⟩
      subst e1
      refine ⟨rfl, ?_⟩
      rw [← hP]
      show Fw (xss _ _ (lawP ++ lawQ) _ _) _
      refine Fw_app (partP (k := 3) rfl hf1 B2 fun f2 M2 h2 B3 => ?_)
      show Fw (xss _ _ lawQ _ _) _
      rw [lawQ_eq]
      refine Fw_app (partA (k := 3) rfl h2 fun f3 M3 h3 => ?_)
      show Fw (xss _ _ (outB ++ outC) _ _) _
      refine Fw_app (partB (k := 3) rfl h3 fun f4 M4 h4 => ?_)
      show Fw (xss _ _ outC _ _) _
      exact partC (k := 3) rfl h4 fun σ M5 => rfl
  obtain ⟨v, M', e, hv⟩ := Rw_get main
  subst hv
  exact ⟨M', e⟩
end Mi.Pg
end
section
set_option Elab.async false
set_option linter.all false
set_option maxRecDepth 100000
set_option maxHeartbeats 0
namespace Mi.Pg
open PySem PySem.W PySem.Calls PyProof.Rows
abbrev R : OpenRow := OpenLaw.row PySem.Challenge.rw_kinstretches_k21_whole_the_way_round
abbrev P0 : Program := PySem.Challenge.rw_kinstretches_k21_whole_the_way_round.prog
abbrev hk : PySem.W.Hook := Mi.hookM 6 pl P0
def ob (s : PySem.W.SharedT) : Bool := Mi.obsM 6 pl P0 (HandSHeadRun.getT s)
theorem ob_eq (s : PySem.W.SharedT) : ob s = hk.obs s.abs := Mi.obsM_eq (HandSHeadRun.getT_eq s)
def loose : List PySem.Str := (["KinError", "InvalidNumber", "InvalidCount", "Refused", "is_integer", "is_between", "divisor", "MOST_PERIOD", "MOST_RING_STEPS", "need_periods", "inverse", "ups_in", "ring_steps", "ring_place", "_law_box", "_law_take", "_law_is", "_law_all", "_law_gcd", "_law_error", "_law_walk"] : List PySem.Str)
theorem run (w : World) : HandSHeadRun.RunEq R (view R.prog [26]) hk ob 20000 loose w := by
  intro os
  kernel_rfl
end Mi.Pg
end
set_option Elab.async false
set_option linter.all false
set_option maxRecDepth 100000
set_option maxHeartbeats 0
open PySem PySem.W PySem.Calls PyProof.Rows
theorem PySem.Challenge.cw_kinstretches_k21_whole_the_way_round_holds : PySem.Challenge.rw_kinstretches_k21_whole_the_way_round.Holds := by
  w_on; o_law
  refine HandSHeadRun.head_any (r := OpenLaw.row PySem.Challenge.rw_kinstretches_k21_whole_the_way_round) (q := view (OpenLaw.row PySem.Challenge.rw_kinstretches_k21_whole_the_way_round).prog [26]) (H := Mi.Pg.hk) (ob := Mi.Pg.ob) (M := 20000) (loose := Mi.Pg.loose) (d := HandSHeadRun.topDef (OpenLaw.row PySem.Challenge.rw_kinstretches_k21_whole_the_way_round).prog 26) (kwd := []) Mi.Pg.ob_eq
    (by kernel_rfl) (fun s => by kernel_rfl) Mi.Pg.run (by kernel_rfl) (by kernel_rfl) (by kernel_rfl) (by rfl) (by first | assumption | decide +kernel) (by decide +kernel) ⟨rfl, rfl, rfl, rfl, rfl, by decide +kernel⟩ ?hw ?hc
  case hw => w_witness2
  case hc => exact Mi.law_walkM Mi.Pg.pl (m := 6) (k := 11) (n := 63) (x := "script") (lawN := Mi.Pg.lawN) rfl (by decide) (by kernel_rfl) ⟨rfl, by decide, by decide⟩ rfl (by kernel_rfl) rfl rfl Mi.Pg.maths
