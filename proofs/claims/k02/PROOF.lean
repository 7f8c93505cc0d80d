import PyProof.Rows.All
import Wide.All
import OpenK.AllK
import Wide.FinOn
import PyProof.ReprReads
import HandS.Base
import HandS.Call
import HandS.List
import HandS.Comp
import HandS.Iter
import HandS.Zip
import HandS.Text
import HandS.TupAny
import HandS.IsInst
import HandS.Deep
import HandS.Exc
import HandS.ExcOwn
import HandS.CallSlots
import HandS.Strs
import HandS.TupMul
import PyProof.ReprRoads
import KE.KSortTupUse
import HandS.Sort
import HandS.Conv
import HandS.More
import HandS.Style
import HandS.FStr
import HandS.TryMany
import KE.GoesEnum
import HandS.TryOnly
import HandS.Dict
import HandS.ExcInit
import HandS.ExcField
import HandS.ExcIs
import PyProof.ListRange
import PyProof.CallFns
import PyProof.ListStr
import HandS.OwnEq
import PyProof.InstNe
import KE.KCallOwn
import HandS.Set
import HandS.SetTxt0
import HandS.TupSets
import KE.KDictZip
import HandS.Ends
import HandS.Words
import HandS.WordsExc
import HandS.Defaults
import HandS.Head0
import HandS.Head1
import HandS.Head2
import HandS.HeadEnd
import HandS.HeadHook1
import HandS.HeadHook2
import HandS.HeadNt
import PySem.Challenge.RW_duewalk_k02_texts_of_sites_judged
import KE.KStateDown
section
set_option Elab.async false
set_option linter.all false
/-! PyI0: an interpreter of a small Python: values, expressions, statements, what they do. -/
namespace PI
open PySem (Str)
abbrev Tx := List Nat
inductive Val where
  | non | bl (b : Bool) | int (i : Int) | str (s : Tx) | tup (xs : List Val) | ref (i : Nat) | lst (xs : List Val) | dct (kvs : List (Tx × Int))
  deriving Inhabited
/-- objects that may change -/
inductive Ob where
  | lst (xs : List Val) | ins (c : Nat) (fs : List (Str × Val))
  deriving Inhabited
structure Ex where
  cls : Nat
  arg : Option Val
  deriving Inhabited
/-- the objects; w: the least place of an object that was given something with an address -/
structure S where
  st : List Ob
  w : Nat
  deriving Inhabited
inductive R (α : Type) where
  | ok (a : α) (s : S) | ex (x : Ex) (s : S) | bad
  deriving Inhabited
abbrev M (α : Type) := S → R α
abbrev Fr := List (Option Val)
def lim : Nat := 16777216
section
variable {α β : Type}
def ret (a : α) : M α := fun s => .ok a s
def bad : M α := fun _ => .bad
def bnd (m : M α) (f : α → M β) : M β := fun s => match m s with
  | .ok a s' => f a s'
  | .ex x s' => .ex x s'
  | .bad => .bad
def raise (x : Ex) : M α := fun s => .ex x s
def look (i : Nat) : M Ob := fun s => match s.st[i]? with
  | some o => .ok o s
  | none => .bad
def opt (o : Option α) : M α := match o with
  | some a => ret a
  | none => bad
def chk (c : Bool) (m : M α) : M α := match c with
  | true => m
  | false => bad
end
mutual
def hasRef : Val → Bool
  | .ref _ => true
  | .tup xs => hasRefs xs
  | .lst xs => hasRefs xs
  | _ => false
def hasRefs : List Val → Bool
  | [] => false
  | x :: r => hasRef x || hasRefs r
end
def obRef : Ob → Bool
  | .lst xs => hasRefs xs
  | .ins _ fs => hasRefs (fs.map (·.2))
def alloc (o : Ob) : M Val := fun s => .ok (.ref s.st.length) ⟨s.st ++ [o], s.w⟩
def put (i : Nat) (o : Ob) : M Unit := fun s => .ok () ⟨s.st.set i o, if obRef o then min s.w i else s.w⟩
/-! ### equality -/
def num : Val → Option Int
  | .bl b => some (if b then 1 else 0)
  | .int i => some i
  | _ => none
mutual
def veq : Val → Val → Bool
  | .non, .non => true
  | .bl a, .bl b => a == b
  | .bl a, .int j => (if a then 1 else 0) == j
  | .int i, .bl b => i == (if b then 1 else 0)
  | .int i, .int j => i == j
  | .str x, .str y => x == y
  | .lst xs, .lst ys => veqs xs ys
  | .tup xs, .tup ys => veqs xs ys
  | _, _ => false
def veqs : List Val → List Val → Bool
  | [], [] => true
  | x :: xs, y :: ys => veq x y && veqs xs ys
  | _, _ => false
end
/-- a value with the lists within; lst: a list that is read only (the script), or a list within a deep value -/
def deep (st : List Ob) : Nat → Val → Option Val
  | _, .non => some .non
  | _, .bl b => some (.bl b)
  | _, .int i => some (.int i)
  | _, .str s => some (.str s)
  | n + 1, .tup xs => match xs.mapM (deep st n) with
    | some ys => some (.tup ys)
    | none => none
  | n + 1, .ref i => match st[i]? with
    | some (.lst xs) => (match xs.mapM (deep st n) with
      | some ys => some (.lst ys)
      | none => none)
    | _ => none
  | _, _ => none
/-- the same, dicts too (for repr) -/
def deepR (st : List Ob) : Nat → Val → Option Val
  | _, .non => some .non
  | _, .bl b => some (.bl b)
  | _, .int i => some (.int i)
  | _, .str s => some (.str s)
  | _, .dct kvs => some (.dct kvs)
  | n + 1, .tup xs => match xs.mapM (deepR st n) with
    | some ys => some (.tup ys)
    | none => none
  | n + 1, .ref i => match st[i]? with
    | some (.lst xs) => (match xs.mapM (deepR st n) with
      | some ys => some (.lst ys)
      | none => none)
    | _ => none
  | _, _ => none
def deepRM (v : Val) : M Val := fun s => match deepR s.st 60 v with
  | some d => .ok d s
  | none => .bad
def deepM (v : Val) : M Val := fun s => match deep s.st 60 v with
  | some d => .ok d s
  | none => .bad
/-! ### expressions -/
inductive Op where
  | add | sub | mul | mod | fdiv | pow
  deriving DecidableEq, Inhabited
inductive Cp where
  | eq | ne | lt | le | gt | ge | mem | nmem | isN | notN
  deriving DecidableEq, Inhabited
inductive Bf where
  | len | abs | int | str | repr | list | tuple | max | min | all | any | sum | sorted | sset | zip4 | bool
  deriving DecidableEq, Inhabited
inductive Bm where
  | append | clear | index | insert | join | split | pop | extend
  deriving DecidableEq, Inhabited
inductive Ty where
  | int | str | bool | list | tuple | dict | cls (c : Nat)
  deriving DecidableEq, Inhabited
inductive Ik where
  | seq | range | range2 | range3 | enum | zip
  deriving DecidableEq, Inhabited
/-- targets -/
inductive Tg where
  | var (i : Nat) | tup (is : List Nat)
  deriving Inhabited
mutual
inductive E where
  | no | k (v : Val) | dk (kvs : List (Tx × Int)) | var (i : Nat) | tup (es : Es) | lst (es : Es)
  | op (o : Op) (a b : E) | neg (a : E) | not (a : E) | and (a b : E) | or (a b : E) | ite (c a b : E)
  | cmp (o : Cp) (a b : E) | chain (o o2 : Cp) (a b c : E)
  | idx (a b : E) | slc (a lo hi : E) | rev (a : E)
  | attr (a : E) (f : Str) | xat (f : Str)
  | call (f : Nat) (es : Es) | make (c : Nat) (es : Es) | meth (a : E) (m : Str) (es : Es)
  | bf (b : Bf) (es : Es) | bm (b : Bm) (a : E) (es : Es)
  | comp (elt : E) (t : Tg) (k : Ik) (src : Es) (c : E)
  | comp2 (elt : E) (t : Tg) (k : Ik) (src : Es) (t1 : Tg) (k1 : Ik) (src1 : Es)
  | isi (a : E) (ts : List Ty) | fstr (a : E)
inductive Es where
  | nil | cons (e : E) (r : Es)
end
instance : Inhabited E := ⟨.no⟩
mutual
inductive T where
  | no | pass | ex (e : E) | ret (e : E) | asg (t : Tg) (e : E) | par (i j : Nat) (a b : E) | sub (a b e : E) | fld (a : E) (f : Str) (e : E)
  | aug (i : Nat) (o : Op) (e : E) | ite (c : E) (a b : Ts) | loop (t : Tg) (k : Ik) (src : Es) (b : Ts) | wh (c : E) (b : Ts)
  | raise (c : Nat) (e : E) | tr (b : Ts) (c : Nat) (nm : Option Nat) (s : Ts)
inductive Ts where
  | nil | cons (t : T) (r : Ts)
end
instance : Inhabited T := ⟨.pass⟩
instance : Inhabited Ts := ⟨.nil⟩
structure Df where
  np : Nat
  ns : Nat
  body : Ts
  deriving Inhabited
structure Cl where
  exc : Bool
  init : Option Nat
  ms : List (Str × Nat)
  eqm : Option Nat
  strm : Option Nat
  flds : List Str
  sups : List Nat
  xf : Option Str
  xi : Option Nat
  deriving Inhabited
structure Pg where
  fs : Nat → Option Df
  cs : Nat → Option Cl
/-- what an expression may use: calls, the program, the error that is handled, how long a while may run -/
structure G where
  call : Nat → List Val → M Val
  pg : Pg
  hx : Option Ex
  wf : Nat
/-! ### operators -/
def isStr : Val → Option Tx
  | .str s => some s
  | _ => none
def lstOf (o : Ob) : Option (List Val) := match o with
  | .lst xs => some xs
  | _ => none
def smallI (i : Int) : Bool := decide (-(2 ^ 64) < i) && decide (i < 2 ^ 64)
def repl {α : Type} (xs : List α) (n : Nat) : List α := (List.replicate n xs).flatten
def opv (o : Op) (a b : Val) : M Val := match o, a, b with
  | .add, .int i, .int j => ret (.int (i + j))
  | .add, .str x, .str y => chk (decide (x.length + y.length ≤ lim)) (ret (.str (x ++ y)))
  | .add, .tup xs, .tup ys => chk (decide (xs.length + ys.length ≤ lim)) (ret (.tup (xs ++ ys)))
  | .add, .ref i, .ref j => bnd (look i) fun o1 => bnd (opt (lstOf o1)) fun xs => bnd (look j) fun o2 => bnd (opt (lstOf o2)) fun ys => chk (decide (xs.length + ys.length ≤ lim)) (alloc (.lst (xs ++ ys)))
  | .sub, .int i, .int j => ret (.int (i - j))
  | .mul, .int i, .int j => chk (smallI i || smallI j) (ret (.int (i * j)))
  | .mul, .ref i, .int k => bnd (look i) fun o1 => bnd (opt (lstOf o1)) fun xs => chk (decide (-(2 ^ 63) ≤ k) && decide (k < 2 ^ 63) && decide (xs.length * k.toNat ≤ lim)) (alloc (.lst (repl xs k.toNat)))
  | .mul, .tup xs, .int k => chk (decide (1 ≤ xs.length) && decide (xs.length ≤ 1000) && decide (2 ≤ k) && decide (k ≤ 1000)) (ret (.tup (repl xs k.toNat)))
  | .mod, .int i, .int j => chk (j != 0) (ret (.int (i.fmod j)))
  | .fdiv, .int i, .int j => chk (j != 0 && decide (j.natAbs < 1073741824)) (ret (.int (i.fdiv j)))
  | .pow, .int i, .int j => chk (decide (0 ≤ j) && decide (j ≤ 1000000) && decide (i.natAbs < 2 ^ 64)) (ret (.int (i ^ j.toNat)))
  | _, _, _ => bad
def ltTx (x y : Tx) : Bool := decide (x < y)
def cmpI (o : Cp) (i j : Int) : Option Bool := match o with
  | .lt => some (decide (i < j))
  | .le => some (decide (i ≤ j))
  | .gt => some (decide (j < i))
  | .ge => some (decide (j ≤ i))
  | _ => none
def cmpS (o : Cp) (i j : Tx) : Option Bool := match o with
  | .lt => some (decide (i < j))
  | .le => some (!decide (j < i))
  | .gt => some (decide (j < i))
  | .ge => some (!decide (i < j))
  | _ => none
def memV (x : Val) (xs : List Val) : Bool := xs.any fun y => veq y x
/-- the items that `in` looks at: a list's, a tuple's -/
def itemsOf (v : Val) : M (List Val) := match v with
  | .tup xs => ret xs
  | .ref i => bnd (look i) fun o => opt (lstOf o)
  | _ => bad
def insOf (s : S) (v : Val) : Option (Nat × List (Str × Val)) := match v with
  | .ref i => (match s.st[i]? with
    | some (.ins c fs) => some (c, fs)
    | _ => none)
  | _ => none
def noEx {α : Type} (m : M α) : M α := fun s => match m s with
  | .ok a s' => .ok a s'
  | _ => .bad
/-- a value that is no instance -/
def forB (s : S) (v : Val) : Bool := match v with
  | .lst _ => false
  | .ref i => (match s.st[i]? with
    | some (.lst _) => true
    | _ => false)
  | _ => true
def eqv (g : G) (a b : Val) : M Bool := fun s => match insOf s a with
  | some (c, _) => (match (g.pg.cs c).bind (·.eqm) with
    | some f => (match insOf s b with
      | some (c2, _) => chk (decide (c2 = c)) (bnd (noEx (g.call f [a, b])) fun v => match v with
        | .bl k => ret k
        | _ => bad) s
      | none => chk (forB s b) (bnd (noEx (g.call f [a, b])) fun v => match v with
        | .bl k => ret k
        | _ => bad) s)
    | none => .bad)
  | none => bnd (deepM a) (fun x => bnd (deepM b) fun y => ret (veq x y)) s
def cmpv (g : G) (o : Cp) (a b : Val) : M Bool := match o with
  | .eq => eqv g a b
  | .ne => bnd (eqv g a b) fun k => ret (!k)
  | .isN => ret (match a with | .non => true | _ => false)
  | .notN => ret (match a with | .non => false | _ => true)
  | .mem => (match a, b with
    | .str [c], .str y => ret (decide (c ∈ y))
    | _, _ => bnd (itemsOf b) fun xs => bnd (deepM a) fun d => bnd (deepM (.tup xs)) fun t => (match t with
      | .tup ds => ret (memV d ds)
      | _ => bad))
  | .nmem => (match a, b with
    | .str [c], .str y => ret (!decide (c ∈ y))
    | _, _ => bnd (itemsOf b) fun xs => bnd (deepM a) fun d => bnd (deepM (.tup xs)) fun t => (match t with
      | .tup ds => ret (!memV d ds)
      | _ => bad))
  | o => (match a, b with
    | .int i, .int j => opt (cmpI o i j)
    | .str x, .str y => opt (cmpS o x y)
    | _, _ => bad)
/-- the place of an index -/
def ixN (n : Nat) (i : Int) : Option Nat := if 0 ≤ i then (if i < n then some i.toNat else none) else if -(n : Int) ≤ i then some (i + n).toNat else none
def atI {α : Type} (xs : List α) (i : Int) : Option α := (ixN xs.length i).bind fun j => xs[j]?
def idxv (a b : Val) : M Val := match a, b with
  | .tup xs, .int i => opt (atI xs i)
  | .lst xs, .int i => opt (atI xs i)
  | .str x, .int i => bnd (opt (atI x i)) fun c => ret (.str [c])
  | .ref r, .int i => bnd (look r) fun o => bnd (opt (lstOf o)) fun xs => opt (atI xs i)
  | _, _ => bad
/-- a bound of a slice -/
def sIx (n d : Nat) : Option Int → Nat
  | none => d
  | some v => if v < 0 then (v + (n : Int)).toNat else min v.toNat n
def cut {α : Type} (xs : List α) (lo hi : Option Int) : List α := (xs.drop (sIx xs.length 0 lo)).take (sIx xs.length xs.length hi - sIx xs.length 0 lo)
def slcv (a : Val) (lo hi : Option Int) : M Val := match a with
  | .tup xs => ret (.tup (cut xs lo hi))
  | .str x => ret (.str (cut x lo hi))
  | .lst xs => alloc (.lst (cut xs lo hi))
  | .ref r => bnd (look r) fun o => bnd (opt (lstOf o)) fun xs => alloc (.lst (cut xs lo hi))
  | _ => bad
def intM (m : M Val) : M (Option Int) := bnd m fun v => match v with
  | .int i => ret (some i)
  | _ => bad
def revv (a : Val) : M Val := match a with
  | .ref r => bnd (look r) fun o => bnd (opt (lstOf o)) fun xs => alloc (.lst xs.reverse)
  | _ => bad
def truth (v : Val) : M Bool := match v with
  | .bl b => ret b
  | _ => bad
/-! ### built-ins -/
def numT (i : Int) : Tx := (toString i).toList.map Char.toNat
def joinT (S : Tx) : List Tx → Tx
  | [] => []
  | [x] => x
  | x :: r => x ++ S ++ joinT S r
def strsOf : List Val → Option (List Tx)
  | [] => some []
  | .str s :: r => (match strsOf r with
    | some q => some (s :: q)
    | none => none)
  | _ :: _ => none
def intsOf : List Val → Option (List Int)
  | [] => some []
  | .int s :: r => (match intsOf r with
    | some q => some (s :: q)
    | none => none)
  | _ :: _ => none
def blsOf : List Val → Option (List Bool)
  | [] => some []
  | .bl s :: r => (match blsOf r with
    | some q => some (s :: q)
    | none => none)
  | _ :: _ => none
/-- split at one sign -/
def splitT (c : Nat) : Tx → Tx → List Tx
  | acc, [] => [acc]
  | acc, x :: r => if x = c then acc :: splitT c [] r else splitT c (acc ++ [x]) r
def insT (x : Tx) : List Tx → List Tx
  | [] => [x]
  | y :: r => if x ≤ y then x :: y :: r else y :: insT x r
def sortT (xs : List Tx) : List Tx := xs.foldr insT []
def dedT : List Tx → List Tx
  | [] => []
  | x :: r => if r.contains x then dedT r else x :: dedT r
/-- pairs of a text and a number -/
def prsOf : List Val → Option (List (Tx × Int))
  | [] => some []
  | .tup [.str s, .int i] :: r => (match prsOf r with
    | some q => some ((s, i) :: q)
    | none => none)
  | _ :: _ => none
def leP (x y : Tx × Int) : Bool := decide (x.1 < y.1) || (decide (x.1 = y.1) && decide (x.2 ≤ y.2))
def insP (x : Tx × Int) : List (Tx × Int) → List (Tx × Int)
  | [] => [x]
  | y :: r => match leP x y with
    | true => x :: y :: r
    | false => y :: insP x r
def sortP (xs : List (Tx × Int)) : List (Tx × Int) := xs.foldr insP []
def prV (p : Tx × Int) : Val := .tup [.str p.1, .int p.2]
def maxI : List Int → Option Int
  | [] => none
  | x :: r => some (r.foldl (fun m y => if y > m then y else m) x)
def minI : List Int → Option Int
  | [] => none
  | x :: r => some (r.foldl (fun m y => if y < m then y else m) x)
mutual
def pd : Val → PySem.PyData
  | .non => .none
  | .bl b => .bool b
  | .int i => .int i
  | .str s => .str ⟨s.toArray⟩
  | .tup xs => .tuple (pds xs)
  | .lst xs => .list (pds xs)
  | .ref _ => .dict []
  | .dct kvs => .dict (kvs.map fun p => (.str ⟨p.1.toArray⟩, .int p.2))
def pds : List Val → List PySem.PyData
  | [] => []
  | x :: r => pd x :: pds r
end
/-- repr of a deep value -/
def reprV (d : Val) : Option Tx := if (pd d).showable then some (pd d).shown.cps.toList else none
/-- four columns as rows -/
def zip4 : List Val → List Val → List Val → List Val → List Val
  | a :: as, b :: bs, c :: cs, d :: ds => .tup [a, b, c, d] :: zip4 as bs cs ds
  | _, _, _, _ => []
def bfv (g : G) (b : Bf) (vs : List Val) : M Val := match b, vs with
  | .len, [.tup xs] => ret (.int xs.length)
  | .len, [.lst xs] => ret (.int xs.length)
  | .len, [.str x] => chk (decide (x.length ≤ lim)) (ret (.int x.length))
  | .len, [.ref r] => bnd (look r) fun o => bnd (opt (lstOf o)) fun xs => ret (.int xs.length)
  | .abs, [.int i] => ret (.int (if i < 0 then -i else i))
  | .int, [.int i] => ret (.int i)
  | .int, [.bl b] => ret (.int (if b then 1 else 0))
  | .int, [.str [c]] => chk (decide (48 ≤ c) && decide (c ≤ 57)) (ret (.int ((c : Int) - 48)))
  | .bool, [.int i] => ret (.bl (i != 0))
  | .bool, [.bl b] => ret (.bl b)
  | .str, [.int i] => chk (decide (i.natAbs.log2 < 1920) && decide ((numT i).length ≤ lim)) (ret (.str (numT i)))
  | .str, [.ref r] => bnd (look r) fun o => (match o with
    | .ins c _ => (match (g.pg.cs c).bind (·.strm) with
      | some f => bnd (noEx (g.call f [.ref r])) fun v => (match v with
        | .str s => ret (.str s)
        | _ => bad)
      | none => bad)
    | _ => bad)
  | .repr, [v] => bnd (deepRM v) fun d => bnd (opt (reprV d)) fun t => chk (t.all (· < 1114112) && decide (t.length ≤ lim)) (ret (.str t))
  | .list, [.tup xs] => alloc (.lst xs)
  | .list, [.str x] => alloc (.lst (x.map fun c => .str [c]))
  | .list, [.ref r] => bnd (look r) fun o => bnd (opt (lstOf o)) fun xs => alloc (.lst xs)
  | .tuple, [.tup xs] => ret (.tup xs)
  | .tuple, [.ref r] => bnd (look r) fun o => bnd (opt (lstOf o)) fun xs => ret (.tup xs)
  | .max, [.int i, .int j] => ret (.int (if j > i then j else i))
  | .min, [.int i, .int j] => ret (.int (if j < i then j else i))
  | .max, [.ref r] => bnd (look r) fun o => bnd (opt (lstOf o)) fun xs => bnd (opt (intsOf xs)) fun ns => bnd (opt (maxI ns)) fun m => ret (.int m)
  | .min, [.ref r] => bnd (look r) fun o => bnd (opt (lstOf o)) fun xs => bnd (opt (intsOf xs)) fun ns => bnd (opt (minI ns)) fun m => ret (.int m)
  | .all, [.ref r] => bnd (look r) fun o => bnd (opt (lstOf o)) fun xs => bnd (opt (blsOf xs)) fun bs => ret (.bl (bs.all id))
  | .any, [.ref r] => bnd (look r) fun o => bnd (opt (lstOf o)) fun xs => bnd (opt (blsOf xs)) fun bs => ret (.bl (bs.any id))
  | .sum, [.ref r] => bnd (look r) fun o => bnd (opt (lstOf o)) fun xs => bnd (opt (intsOf xs)) fun ns => ret (.int ns.sum)
  | .sorted, [.ref r] => bnd (look r) fun o => bnd (opt (lstOf o)) fun xs => chk (decide (xs.length < 64)) (match strsOf xs with
    | some ss => alloc (.lst ((sortT ss).map .str))
    | none => bnd (opt (prsOf xs)) fun ps => alloc (.lst ((sortP ps).map prV)))
  | .zip4, [.tup a, .tup b, .tup c, .tup d] => chk (decide (b.length = a.length) && decide (c.length = a.length) && decide (d.length = a.length) && decide (0 < a.length) && decide (a.length < 1000)) (alloc (.lst (zip4 a b c d)))
  | .sset, [.ref r] => bnd (look r) fun o => bnd (opt (lstOf o)) fun xs => chk (decide (xs.length < 64)) (bnd (opt (strsOf xs)) fun ss => alloc (.lst ((sortT (dedT ss)).map .str)))
  | _, _ => bad
/-- the first place of an equal item -/
def indexV (x : Val) : List Val → Nat → Option Nat
  | [], _ => none
  | y :: r, n => if veq y x then some n else indexV x r (n + 1)
def bmv (b : Bm) (a : Val) (vs : List Val) : M Val := match b, a, vs with
  | .append, .ref r, [v] => bnd (look r) fun o => bnd (opt (lstOf o)) fun xs => chk (decide (xs.length < lim)) (bnd (put r (.lst (xs ++ [v]))) fun _ => ret .non)
  | .clear, .ref r, [] => bnd (look r) fun o => bnd (opt (lstOf o)) fun xs => bnd (put r (.lst [])) fun _ => ret .non
  | .pop, .ref r, [] => bnd (look r) fun o => bnd (opt (lstOf o)) fun xs => bnd (opt xs[xs.length - 1]?) fun y => bnd (put r (.lst xs.dropLast)) fun _ => ret y
  | .insert, .ref r, [.int i, v] => bnd (look r) fun o => bnd (opt (lstOf o)) fun xs => chk (decide (xs.length < lim) && decide (0 ≤ i) && decide (i < 2 ^ 63)) (bnd (put r (.lst (xs.take i.toNat ++ [v] ++ xs.drop i.toNat))) fun _ => ret .non)
  | .pop, .ref r, [.int i] => bnd (look r) fun o => bnd (opt (lstOf o)) fun xs => chk (decide (-(2 ^ 63) ≤ i) && decide (i < 2 ^ 63)) <| bnd (opt (ixN xs.length i)) fun j => bnd (opt xs[j]?) fun y => bnd (put r (.lst (xs.eraseIdx j))) fun _ => ret y
  | .index, .tup xs, [.str x] => bnd (opt (strsOf xs)) fun ss => bnd (opt (ss.findIdx? (· == x))) fun j => ret (.int j)
  | .index, .ref r, [x] => bnd (look r) fun o => bnd (opt (lstOf o)) fun xs => bnd (deepM x) fun d => bnd (deepM (.tup xs)) fun t => (match t with
      | .tup ds => bnd (opt (indexV d ds 0)) fun j => ret (.int j)
      | _ => bad)
  | .join, .str s, [v] => bnd (itemsOf v) fun xs => bnd (opt (strsOf xs)) fun ss => chk (decide ((ss.map (·.length)).sum + ss.length * s.length ≤ lim)) (ret (.str (joinT s ss)))
  | .split, .str s, [.str [c]] => chk (decide (s.length + 2 ≤ lim) && decide (c < 256)) (alloc (.lst ((splitT c [] s).map .str)))
  | _, _, _ => bad
def bmL : Bm → Bool
  | .append => true | .index => true | .insert => true | .pop => true | .clear => true | _ => false
/-- has the value that method? -/
def bmChk (b : Bm) (a : Val) : M Unit := match a with
  | .ref r => chk (bmL b) (bnd (look r) fun o => bnd (opt (lstOf o)) fun _ => ret ())
  | .tup _ => chk (b == .index) (ret ())
  | .str _ => chk (b == .join || b == .split) (ret ())
  | _ => bad
/-! ### what is walked -/
inductive Src where
  | items (xs : List Val) | live (r : Nat) | rng (lo c : Int) (n : Nat) | enum (r : Nat) | zipL (a b : Nat) | zipT (xs ys : List Val) | zipM (a : Nat) (ys : List Val) | sgn (x : Tx)
  deriving Inhabited
def srcOf (k : Ik) (vs : List Val) : M Src := match k, vs with
  | .seq, [.tup xs] => ret (.items xs)
  | .seq, [.lst xs] => ret (.items xs)
  | .seq, [.str x] => ret (.sgn x)
  | .seq, [.ref r] => bnd (look r) fun o => bnd (opt (lstOf o)) fun _ => ret (.live r)
  | .range, [.int j] => chk (decide (-(2 ^ 62) ≤ j) && decide (j < 2 ^ 62)) (ret (.rng 0 1 j.toNat))
  | .range2, [.int i, .int j] => chk (decide (-(2 ^ 62) ≤ i) && decide (i < 2 ^ 62) && decide (-(2 ^ 62) ≤ j) && decide (j < 2 ^ 62)) (ret (.rng i 1 (j - i).toNat))
  | .range3, [.int i, .int j, .int c] => chk (c != 0 && decide (c.natAbs < 1073741824) && PySem.Builtin.Range.small i j c && decide (0 ≤ PySem.Builtin.Range.rangeSize i j c)) (ret (.rng i c (PySem.Builtin.Range.rangeSize i j c).toNat))
  | .enum, [.ref r] => bnd (look r) fun o => bnd (opt (lstOf o)) fun _ => ret (.enum r)
  | .zip, [.ref a, .ref b] => bnd (look a) fun o => bnd (opt (lstOf o)) fun _ => bnd (look b) fun o => bnd (opt (lstOf o)) fun _ => ret (.zipL a b)
  | .zip, [.tup xs, .tup ys] => ret (.zipT xs ys)
  | .zip, [.ref a, .tup ys] => bnd (look a) fun o => bnd (opt (lstOf o)) fun _ => ret (.zipM a ys)
  | _, _ => bad
/-- the i-th item: some none: the end -/
def srcAt (q : Src) (i : Nat) : M (Option Val) := match q with
  | .items xs => ret xs[i]?
  | .sgn x => ret (x[i]?.map fun c => .str [c])
  | .rng lo c n => ret (if i < n then some (.int (lo + i * c)) else none)
  | .live r => bnd (look r) fun o => bnd (opt (lstOf o)) fun xs => ret xs[i]?
  | .enum r => bnd (look r) fun o => bnd (opt (lstOf o)) fun xs => ret (xs[i]?.map fun x => .tup [.int i, x])
  | .zipL a b => bnd (look a) fun o => bnd (opt (lstOf o)) fun xs => bnd (look b) fun o => bnd (opt (lstOf o)) fun ys => ret (match xs[i]?, ys[i]? with
    | some x, some y => some (.tup [x, y])
    | _, _ => none)
  | .zipT xs ys => ret (match xs[i]?, ys[i]? with
    | some x, some y => some (.tup [x, y])
    | _, _ => none)
  | .zipM a ys => bnd (look a) fun o => bnd (opt (lstOf o)) fun xs => chk (decide (i ≤ xs.length) && decide (i ≤ ys.length)) (ret (match xs[i]?, ys[i]? with
    | some x, some y => some (.tup [x, y])
    | _, _ => none))
/-- are pairs made? -/
def pairs : Src → Bool
  | .enum _ => true | .zipL _ _ => true | .zipT _ _ => true | .zipM _ _ => true | _ => false
def isTup : Tg → Bool
  | .tup _ => true
  | _ => false
def tgOk (t : Tg) (q : Src) : Bool := !pairs q || isTup t
/-- how many items at most -/
def srcLen (q : Src) (s : S) : Nat := match q with
  | .items xs => xs.length
  | .sgn x => x.length
  | .rng _ _ n => n
  | .live r => (match s.st[r]? with | some o => ((lstOf o).getD []).length | none => 0)
  | .enum r => (match s.st[r]? with | some o => ((lstOf o).getD []).length | none => 0)
  | .zipL a _ => (match s.st[a]? with | some o => ((lstOf o).getD []).length | none => 0)
  | .zipT xs _ => xs.length
  | .zipM _ ys => ys.length
def putAll : List Nat → List Val → Fr → Option Fr
  | [], [], fr => some fr
  | i :: is, v :: vs, fr => putAll is vs (fr.set i (some v))
  | _, _, _ => none
def setTg (t : Tg) (v : Val) (fr : Fr) : Option Fr := match t with
  | .var i => some (fr.set i (some v))
  | .tup is => (match v with
    | .tup xs => putAll is xs fr
    | _ => none)
def tgIx : Tg → List Nat
  | .var i => [i]
  | .tup is => is
def wipeF (fr : Fr) : List Nat → Fr
  | [] => fr
  | v :: vs => (wipeF fr vs).set v none
/-- the turns of a comprehension: what is made so far, the place, the turns that may be left -/
def compN (step : Val → M (Option Val)) (q : Src) : Nat → Nat → List Val → M (List Val)
  | 0, i, acc => bnd (srcAt q i) fun o => (match o with
    | none => ret acc
    | some _ => bad)
  | m + 1, i, acc => bnd (srcAt q i) fun o => (match o with
    | none => ret acc
    | some v => bnd (step v) fun y => (match y with
      | some z => chk (decide (acc.length < lim)) (compN step q m (i + 1) (acc ++ [z]))
      | none => compN step q m (i + 1) acc))
/-- the turns of the outer one of two fors: what a turn adds -/
def comp2N (step : Val → List Val → M (List Val)) (q : Src) : Nat → Nat → List Val → M (List Val)
  | 0, i, acc => bnd (srcAt q i) fun o => (match o with
    | none => ret acc
    | some _ => bad)
  | m + 1, i, acc => bnd (srcAt q i) fun o => (match o with
    | none => ret acc
    | some v => bnd (step v acc) fun acc2 => comp2N step q m (i + 1) acc2)
def clOk (pg : Pg) (c : Nat) : Bool := (pg.cs c).any fun k => !k.exc
def tyIs (pg : Pg) (s : S) (v : Val) (t : Ty) : Option Bool := match v with
  | .non => some false
  | .bl _ => some (match t with | .bool => true | .int => true | _ => false)
  | .int _ => some (match t with | .int => true | _ => false)
  | .str _ => some (match t with | .str => true | _ => false)
  | .tup _ => some (match t with | .tuple => true | _ => false)
  | .ref i => (match s.st[i]? with
    | some (.lst _) => some (match t with | .list => true | _ => false)
    | some (.ins c _) => if clOk pg c then some (match t with | .cls d => decide (c = d) | _ => false) else none
    | _ => none)
  | .lst _ => none
  | .dct _ => some (match t with | .dict => true | _ => false)
mutual
def ev (g : G) (fr : Fr) : E → M Val
  | .no => ret .non
  | .k v => ret v
  | .dk kvs => ret (.dct kvs)
  | .var i => (match fr[i]? with
    | some (some v) => ret v
    | _ => bad)
  | .tup es => bnd (evs g fr es) fun vs => chk (decide (vs.length ≤ lim)) (ret (.tup vs))
  | .lst es => bnd (evs g fr es) fun vs => chk (decide (vs.length ≤ lim)) (alloc (.lst vs))
  | .op o a b => bnd (ev g fr a) fun x => bnd (ev g fr b) fun y => opv o x y
  | .neg a => bnd (ev g fr a) fun x => (match x with
    | .int i => ret (.int (-i))
    | _ => bad)
  | .not a => bnd (ev g fr a) fun x => bnd (truth x) fun b => ret (.bl (!b))
  | .and a b => bnd (ev g fr a) fun x => bnd (truth x) fun k => (match k with
    | true => ev g fr b
    | false => ret (.bl false))
  | .or a b => bnd (ev g fr a) fun x => bnd (truth x) fun k => (match k with
    | true => ret (.bl true)
    | false => ev g fr b)
  | .ite c a b => bnd (ev g fr c) fun x => bnd (truth x) fun k => (match k with
    | true => ev g fr a
    | false => ev g fr b)
  | .cmp o a b => bnd (ev g fr a) fun x => bnd (ev g fr b) fun y => bnd (cmpv g o x y) fun k => ret (.bl k)
  | .chain o o2 a b c => bnd (ev g fr a) fun x => bnd (ev g fr b) fun y => bnd (cmpv g o x y) fun k => (match k with
    | true => bnd (ev g fr c) fun z => bnd (cmpv g o2 y z) fun k2 => ret (.bl k2)
    | false => ret (.bl false))
  | .idx a b => bnd (ev g fr a) fun x => bnd (ev g fr b) fun y => idxv x y
  | .slc a lo hi => bnd (ev g fr a) fun x => bnd (match lo with
    | .no => ret none
    | _ => intM (ev g fr lo)) fun l => bnd (match hi with
    | .no => ret none
    | _ => intM (ev g fr hi)) fun h => slcv x l h
  | .rev a => bnd (ev g fr a) fun x => revv x
  | .attr a f => bnd (ev g fr a) fun x s => (match insOf s x with
    | some (_, fs) => (match fs.lookup f with
      | some v => .ok v s
      | none => .bad)
    | none => .bad)
  | .xat f => (match g.hx with
    | some ⟨c, some v⟩ => chk (decide ((g.pg.cs c).bind (·.xf) = some f)) (ret v)
    | _ => bad)
  | .call f es => bnd (evs g fr es) fun vs => g.call f vs
  | .make c es => bnd (evs g fr es) fun vs => (match (g.pg.cs c).bind (·.init) with
    | some f => bnd (alloc (.ins c [])) fun r => bnd (g.call f (r :: vs)) fun v => (match v with
      | .non => ret r
      | _ => bad)
    | none => bad)
  | .meth a m es => bnd (ev g fr a) fun x s => (match insOf s x with
    | some (c, _) => (match (g.pg.cs c).bind (·.ms.lookup m) with
      | some f => bnd (evs g fr es) (fun vs => g.call f (x :: vs)) s
      | none => .bad)
    | none => .bad)
  | .bf b es => bnd (evs g fr es) fun vs => bfv g b vs
  | .bm b a es => bnd (ev g fr a) fun x => bnd (bmChk b x) fun _ => bnd (evs g fr es) fun vs => bmv b x vs
  | .comp elt t k src c => bnd (evs g fr src) fun vs => bnd (srcOf k vs) fun q s => noEx (chk (tgOk t q) (bnd (compN (fun v => match setTg t v (wipeF fr (tgIx t)) with
      | none => bad
      | some fr' => bnd (match c with
        | .no => ret true
        | _ => bnd (ev g fr' c) truth) fun b => (match b with
          | true => bnd (ev g fr' elt) fun y => ret (some y)
          | false => ret none)) q (srcLen q s) 0 []) fun xs => alloc (.lst xs))) s
  | .comp2 elt t k src t1 k1 src1 => bnd (evs g fr src) fun vs => bnd (srcOf k vs) fun q s => noEx (chk (tgOk t q) (bnd (comp2N (fun v acc => match setTg t v (wipeF fr (tgIx t ++ tgIx t1)) with
      | none => bad
      | some fr2 => bnd (evs g fr2 src1) fun us => bnd (srcOf k1 us) fun q1 s1 => chk (tgOk t1 q1) (compN (fun y => match setTg t1 y (wipeF fr2 (tgIx t1)) with
        | none => bad
        | some fr3 => bnd (ev g fr3 elt) fun z => ret (some z)) q1 (srcLen q1 s1) 0 acc) s1) q (srcLen q s) 0 []) fun xs => alloc (.lst xs))) s
  | .isi a ts => bnd (ev g fr a) fun x s => (match ts.mapM (tyIs g.pg s x) with
    | some bs => .ok (.bl (bs.any id)) s
    | none => .bad)
  | .fstr a => bnd (ev g fr a) fun x => (match x with
    | .str s => ret (.str s)
    | _ => bad)
def evs (g : G) (fr : Fr) : Es → M (List Val)
  | .nil => ret []
  | .cons e r => bnd (ev g fr e) fun v => bnd (evs g fr r) fun vs => ret (v :: vs)
end
end PI
end

section
set_option Elab.async false
set_option linter.all false
/-! PyI1: statements, calls. -/
namespace PI
open PySem (Str)
/-- behind a statement -/
inductive RS where
  | nx (fr : Fr) (s : S) | rt (v : Val) (s : S) | ex (x : Ex) (fr : Fr) (s : S) | bad
  deriving Inhabited
def wE {α : Type} (m : M α) (fr : Fr) (k : α → S → RS) : S → RS := fun s => match m s with
  | .ok a s' => k a s'
  | .ex x s' => .ex x fr s'
  | .bad => .bad
def putF (f : Str) (v : Val) : List (Str × Val) → List (Str × Val)
  | [] => [(f, v)]
  | (g, u) :: r => if g = f then (f, v) :: r else (g, u) :: putF f v r
def setFld (g : G) (x : Val) (f : Str) (v : Val) : M Unit := match x with
  | .ref i => bnd (look i) fun o => (match o with
    | .ins c fs => chk (decide (fs.length < 1000) && ((g.pg.cs c).any fun k => k.flds.contains f)) (put i (.ins c (putF f v fs)))
    | _ => bad)
  | _ => bad
def setSub (x i v : Val) : M Unit := match x, i with
  | .ref r, .int k => bnd (look r) fun o => bnd (opt (lstOf o)) fun xs => bnd (opt (ixN xs.length k)) fun j => put r (.lst (xs.set j v))
  | _, _ => bad
def augv (o : Op) (a b : Val) : M Val := match o, a, b with
  | .add, .int i, .int j => ret (.int (i + j))
  | .sub, .int i, .int j => ret (.int (i - j))
  | .add, .ref i, .ref j => chk (i != j) (bnd (look i) fun o1 => bnd (opt (lstOf o1)) fun xs => bnd (look j) fun o2 => bnd (opt (lstOf o2)) fun ys => chk (decide (xs.length + ys.length ≤ lim)) (bnd (put i (.lst (xs ++ ys))) fun _ => ret (.ref i)))
  | _, _, _ => bad
/-- targets, lists unpacked too -/
def setTgS (s : S) (t : Tg) (v : Val) (fr : Fr) : Option Fr := match t with
  | .var i => some (fr.set i (some v))
  | .tup is => (match v with
    | .tup xs => putAll is xs fr
    | .ref r => (match s.st[r]? with
      | some (.lst xs) => putAll is xs fr
      | _ => none)
    | _ => none)
/-- the turns of a for -/
def forN (body : Fr → S → RS) (t : Tg) (q : Src) : Nat → Nat → Fr → S → RS
  | 0, i, fr => wE (srcAt q i) fr fun o s => (match o with
    | none => .nx fr s
    | some _ => .bad)
  | m + 1, i, fr => wE (srcAt q i) fr fun o s => (match o with
    | none => .nx fr s
    | some v => (match setTgS s t v fr with
      | none => .bad
      | some fr' => (match body fr' s with
        | .nx fr2 s2 => forN body t q m (i + 1) fr2 s2
        | r => r)))
def whN (test : Fr → M Bool) (body : Fr → S → RS) : Nat → Fr → S → RS
  | 0, _ => fun _ => .bad
  | m + 1, fr => wE (test fr) fr fun k s => (match k with
    | false => .nx fr s
    | true => (match body fr s with
      | .nx fr2 s2 => whN test body m fr2 s2
      | r => r))
/-- is an error of the class a one of the class c? -/
def exIs (pg : Pg) (a c : Nat) : Option Bool := (pg.cs a).bind fun k => if k.exc then some (k.sups.contains c) else none
def clr (nm : Option Nat) (fr : Fr) : Fr := match nm with
  | some i => fr.set i none
  | none => fr
def G.mark (g : G) (x : Ex) : G := { g with hx := some x }
mutual
def exT (g : G) : T → Fr → S → RS
  | .no, _ => fun _ => .bad
  | .pass, fr => fun s => .nx fr s
  | .ex e, fr => wE (ev g fr e) fr fun _ s => .nx fr s
  | .ret e, fr => wE (ev g fr e) fr fun v s => .rt v s
  | .asg t e, fr => wE (ev g fr e) fr fun v s => (match setTg t v fr with
    | some fr' => .nx fr' s
    | none => .bad)
  | .par i j a b, fr => wE (bnd (ev g fr a) fun x => bnd (ev g fr b) fun y => ret (x, y)) fr fun p s => .nx ((fr.set i (some p.1)).set j (some p.2)) s
  | .sub a b e, fr => wE (bnd (ev g fr e) fun v => bnd (ev g fr a) fun x => bnd (ev g fr b) fun i => setSub x i v) fr fun _ s => .nx fr s
  | .fld a f e, fr => wE (bnd (ev g fr e) fun v => bnd (ev g fr a) fun x => setFld g x f v) fr fun _ s => .nx fr s
  | .aug i o e, fr => wE (bnd (ev g fr (.var i)) fun x => bnd (ev g fr e) fun y => augv o x y) fr fun z s => .nx (fr.set i (some z)) s
  | .ite c a b, fr => wE (bnd (ev g fr c) truth) fr fun k s => (match k with
    | true => exTs g a fr s
    | false => exTs g b fr s)
  | .loop t k src b, fr => wE (bnd (evs g fr src) (srcOf k)) fr fun q s => (match tgOk t q with
    | true => forN (exTs g b) t q (srcLen q s) 0 fr s
    | false => .bad)
  | .wh c b, fr => whN (fun fr => bnd (ev g fr c) truth) (exTs g b) g.wf fr
  | .raise c e, fr => (match e with
    | .no => fun s => .ex ⟨c, none⟩ fr s
    | _ => wE (ev g fr e) fr fun v s => .ex ⟨c, some v⟩ fr s)
  | .tr b c nm su, fr => fun s => (match exTs g b fr s with
    | .ex x fr2 s2 => (match exIs g.pg x.cls c with
      | some true => (match exTs (g.mark x) su (clr nm fr2) s2 with
        | .nx fr3 s3 => .nx (clr nm fr3) s3
        | .rt v s3 => .rt v s3
        | _ => .bad)
      | some false => .ex x fr2 s2
      | none => .bad)
    | r => r)
def exTs (g : G) : Ts → Fr → S → RS
  | .nil, fr => fun s => .nx fr s
  | .cons t r, fr => fun s => (match exT g t fr s with
    | .nx fr2 s2 => exTs g r fr2 s2
    | q => q)
end
/-- behind a call: what only the callee knew is forgotten -/
def leave (b w0 : Nat) (v : Val) (s : S) : R Val := if b ≤ s.w then (match v with
    | .ref r => if r < b then .ok v ⟨s.st.take b, w0⟩ else (match s.st[r]? with
      | some o => if obRef o then .ok v ⟨s.st, w0⟩ else .ok (.ref b) ⟨s.st.take b ++ [o], w0⟩
      | none => .bad)
    | v => if hasRef v then .ok v ⟨s.st, w0⟩ else .ok v ⟨s.st.take b, w0⟩)
  else .ok v ⟨s.st, min w0 s.w⟩
def leaveX (b w0 : Nat) (x : Ex) (s : S) : R Val := if b ≤ s.w && !((x.arg.map hasRef).getD false) then .ex x ⟨s.st.take b, w0⟩ else .ex x ⟨s.st, min w0 s.w⟩
def callN (pg : Pg) (wf : Nat) : Nat → Nat → List Val → M Val
  | 0, _, _ => bad
  | d + 1, f, vs => fun s => (match pg.fs f with
    | some df => if vs.length = df.np then (match exTs ⟨callN pg wf d, pg, none, wf⟩ df.body (vs.map some ++ List.replicate (df.ns - df.np) none) ⟨s.st, s.st.length⟩ with
        | .nx _ s2 => leave s.st.length s.w .non s2
        | .rt v s2 => leave s.st.length s.w v s2
        | .ex x _ s2 => leaveX s.st.length s.w x s2
        | .bad => .bad) else .bad
    | none => .bad)
/-- the law over a script -/
def runs (pg : Pg) (wf d f : Nat) (script : List Int) : Bool := match callN pg wf d f [.lst (script.map .int)] ⟨[], 0⟩ with
  | .ok (.bl true) _ => true
  | _ => false
end PI
end

section
set_option Elab.async false
set_option linter.all false
set_option maxRecDepth 100000
set_option maxHeartbeats 0
namespace PI
abbrev F_InvalidText___init__ : Nat := 0
abbrev F_is_name : Nat := 1
abbrev F_read_figure : Nat := 2
abbrev F_read_ways : Nat := 3
abbrev F_read_row : Nat := 4
abbrev F_read_rows : Nat := 5
abbrev F_written : Nat := 6
abbrev F_Site___init__ : Nat := 7
abbrev F_Site_parse : Nat := 8
abbrev F_Site___str__ : Nat := 9
abbrev F_Site___eq__ : Nat := 10
abbrev F__law_feed : Nat := 11
abbrev F__law_take : Nat := 12
abbrev F__law_pick : Nat := 13
abbrev F__law_word : Nat := 14
abbrev F__law_drawn : Nat := 15
abbrev F__law_row : Nat := 16
abbrev F__law_text : Nat := 17
abbrev F__law_is_name : Nat := 18
abbrev F__law_are_ways : Nat := 19
abbrev F__law_is_row : Nat := 20
abbrev F__law_bad_row : Nat := 21
abbrev F__law_said : Nat := 22
abbrev F__law_other_row : Nat := 23
abbrev F__law_spoilt : Nat := 24
abbrev F_law : Nat := 25
abbrev C_WalkError : Nat := 0
abbrev C_InvalidText : Nat := 1
abbrev C_Site : Nat := 2
def d_InvalidText___init__ : Df := ⟨2, 2, (Ts.cons (T.fld (E.var 0) "row" (E.var 1)) Ts.nil)⟩
def d_is_name : Df := ⟨1, 2, (Ts.cons (T.ite (E.or (E.not (E.isi (E.var 0) [Ty.str])) (E.not (E.chain Cp.le Cp.le (E.k (Val.int 1)) (E.bf Bf.len (Es.cons (E.var 0) Es.nil)) (E.k (Val.int 8))))) (Ts.cons (T.ret (E.k (Val.bl false))) Ts.nil) Ts.nil) (Ts.cons (T.ret (E.bf Bf.all (Es.cons (E.comp (E.cmp Cp.mem (E.var 1) (E.k (Val.str [97, 98, 99, 100, 101, 102, 103, 104, 105, 106, 107, 108, 109, 110, 111, 112, 113, 114, 115, 116, 117, 118, 119, 120, 121, 122]))) (Tg.var 1) Ik.seq (Es.cons (E.var 0) Es.nil) E.no) Es.nil))) Ts.nil))⟩
def d_read_figure : Df := ⟨3, 3, (Ts.cons (T.ite (E.or (E.cmp Cp.ne (E.bf Bf.len (Es.cons (E.var 0) Es.nil)) (E.k (Val.int 1))) (E.or (E.cmp Cp.nmem (E.var 0) (E.k (Val.str [48, 49, 50, 51, 52, 53, 54, 55, 56, 57]))) (E.not (E.chain Cp.le Cp.le (E.var 1) (E.bf Bf.int (Es.cons (E.var 0) Es.nil)) (E.var 2))))) (Ts.cons (T.ret (E.k Val.non)) Ts.nil) Ts.nil) (Ts.cons (T.ret (E.bf Bf.int (Es.cons (E.var 0) Es.nil))) Ts.nil))⟩
def d_read_ways : Df := ⟨3, 7, (Ts.cons (T.ite (E.or (E.cmp Cp.eq (E.var 0) (E.lst Es.nil)) (E.cmp Cp.eq (E.op Op.mod (E.bf Bf.len (Es.cons (E.var 0) Es.nil)) (E.k (Val.int 2))) (E.k (Val.int 1)))) (Ts.cons (T.ret (E.k Val.non)) Ts.nil) Ts.nil) (Ts.cons (T.asg (Tg.var 3) (E.lst Es.nil)) (Ts.cons (T.loop (Tg.var 4) Ik.range3 (Es.cons (E.k (Val.int 0)) (Es.cons (E.bf Bf.len (Es.cons (E.var 0) Es.nil)) (Es.cons (E.k (Val.int 2)) Es.nil))) (Ts.cons (T.par 5 6 (E.idx (E.var 0) (E.var 4)) (E.call F_read_figure (Es.cons (E.idx (E.var 0) (E.op Op.add (E.var 4) (E.k (Val.int 1)))) (Es.cons (E.k (Val.int 1)) (Es.cons (E.k (Val.int 3)) Es.nil))))) (Ts.cons (T.ite (E.or (E.not (E.call F_is_name (Es.cons (E.var 5) Es.nil))) (E.or (E.cmp Cp.eq (E.var 5) (E.var 1)) (E.or (E.cmp Cp.nmem (E.var 5) (E.var 2)) (E.cmp Cp.isN (E.var 6) (E.k Val.non))))) (Ts.cons (T.ret (E.k Val.non)) Ts.nil) Ts.nil) (Ts.cons (T.ite (E.and (E.cmp Cp.ne (E.var 3) (E.lst Es.nil)) (E.cmp Cp.le (E.var 5) (E.idx (E.idx (E.var 3) (E.neg (E.k (Val.int 1)))) (E.k (Val.int 0))))) (Ts.cons (T.ret (E.k Val.non)) Ts.nil) Ts.nil) (Ts.cons (T.ex (E.bm Bm.append (E.var 3) (Es.cons (E.tup (Es.cons (E.var 5) (Es.cons (E.var 6) Es.nil))) Es.nil))) Ts.nil))))) (Ts.cons (T.ret (E.bf Bf.tuple (Es.cons (E.var 3) Es.nil))) Ts.nil))))⟩
def d_read_row : Df := ⟨3, 9, (Ts.cons (T.asg (Tg.var 3) (E.bm Bm.split (E.var 0) (Es.cons (E.k (Val.str [32])) Es.nil))) (Ts.cons (T.asg (Tg.var 4) (E.idx (E.var 3) (E.k (Val.int 0)))) (Ts.cons (T.ite (E.or (E.not (E.call F_is_name (Es.cons (E.var 4) Es.nil))) (E.or (E.cmp Cp.mem (E.var 4) (E.slc (E.var 1) E.no (E.var 2))) (E.cmp Cp.lt (E.bf Bf.len (Es.cons (E.var 3) Es.nil)) (E.k (Val.int 2))))) (Ts.cons (T.ret (E.k Val.non)) Ts.nil) Ts.nil) (Ts.cons (T.par 7 8 (E.call F_read_figure (Es.cons (E.idx (E.var 3) (E.k (Val.int 1))) (Es.cons (E.k (Val.int 0)) (Es.cons (E.k (Val.int 9)) Es.nil)))) (E.slc (E.var 3) (E.k (Val.int 2)) E.no)) (Ts.cons (T.asg (Tg.var 5) (E.cmp Cp.eq (E.slc (E.var 8) E.no (E.k (Val.int 1))) (E.lst (Es.cons (E.k (Val.str [115, 116, 97, 121])) Es.nil)))) (Ts.cons (T.ite (E.var 5) (Ts.cons (T.asg (Tg.var 8) (E.slc (E.var 8) (E.k (Val.int 1)) E.no)) Ts.nil) Ts.nil) (Ts.cons (T.ite (E.or (E.cmp Cp.isN (E.var 7) (E.k Val.non)) (E.and (E.cmp Cp.eq (E.var 8) (E.lst Es.nil)) (E.not (E.var 5)))) (Ts.cons (T.ret (E.k Val.non)) Ts.nil) Ts.nil) (Ts.cons (T.ite (E.cmp Cp.eq (E.var 8) (E.lst Es.nil)) (Ts.cons (T.ret (E.tup (Es.cons (E.var 4) (Es.cons (E.var 7) (Es.cons (E.var 5) (Es.cons (E.tup Es.nil) Es.nil)))))) Ts.nil) Ts.nil) (Ts.cons (T.asg (Tg.var 6) (E.ite (E.cmp Cp.eq (E.idx (E.var 8) (E.k (Val.int 0))) (E.k (Val.str [45, 62]))) (E.call F_read_ways (Es.cons (E.slc (E.var 8) (E.k (Val.int 1)) E.no) (Es.cons (E.var 4) (Es.cons (E.var 1) Es.nil)))) (E.k Val.non))) (Ts.cons (T.ret (E.ite (E.cmp Cp.isN (E.var 6) (E.k Val.non)) (E.k Val.non) (E.tup (Es.cons (E.var 4) (Es.cons (E.var 7) (Es.cons (E.var 5) (Es.cons (E.var 6) Es.nil))))))) Ts.nil))))))))))⟩
def d_read_rows : Df := ⟨1, 7, (Ts.cons (T.ite (E.or (E.not (E.isi (E.var 0) [Ty.str])) (E.cmp Cp.eq (E.var 0) (E.k (Val.str [])))) (Ts.cons (T.raise C_InvalidText (E.k (Val.int 0))) Ts.nil) Ts.nil) (Ts.cons (T.par 2 3 (E.bm Bm.split (E.var 0) (Es.cons (E.k (Val.str [10])) Es.nil)) (E.lst Es.nil)) (Ts.cons (T.asg (Tg.var 1) (E.comp (E.idx (E.bm Bm.split (E.var 5) (Es.cons (E.k (Val.str [32])) Es.nil)) (E.k (Val.int 0))) (Tg.var 5) Ik.seq (Es.cons (E.var 2) Es.nil) E.no)) (Ts.cons (T.loop (Tg.tup [4, 5]) Ik.enum (Es.cons (E.var 2) Es.nil) (Ts.cons (T.asg (Tg.var 6) (E.ite (E.cmp Cp.lt (E.var 4) (E.k (Val.int 6))) (E.call F_read_row (Es.cons (E.var 5) (Es.cons (E.var 1) (Es.cons (E.var 4) Es.nil)))) (E.k Val.non))) (Ts.cons (T.ite (E.cmp Cp.isN (E.var 6) (E.k Val.non)) (Ts.cons (T.raise C_InvalidText (E.var 4)) Ts.nil) Ts.nil) (Ts.cons (T.ex (E.bm Bm.append (E.var 3) (Es.cons (E.var 6) Es.nil))) Ts.nil)))) (Ts.cons (T.ret (E.var 3)) Ts.nil)))))⟩
def d_written : Df := ⟨1, 8, (Ts.cons (T.asg (Tg.tup [2, 3, 4, 5]) (E.var 0)) (Ts.cons (T.asg (Tg.var 1) (E.op Op.add (E.lst (Es.cons (E.var 2) (Es.cons (E.bf Bf.str (Es.cons (E.var 3) Es.nil)) Es.nil))) (E.op Op.mul (E.lst (Es.cons (E.k (Val.str [115, 116, 97, 121])) Es.nil)) (E.bf Bf.int (Es.cons (E.var 4) Es.nil))))) (Ts.cons (T.ite (E.cmp Cp.ne (E.var 5) (E.tup Es.nil)) (Ts.cons (T.ex (E.bm Bm.append (E.var 1) (Es.cons (E.k (Val.str [45, 62])) Es.nil))) (Ts.cons (T.loop (Tg.tup [6, 7]) Ik.seq (Es.cons (E.var 5) Es.nil) (Ts.cons (T.aug 1 Op.add (E.lst (Es.cons (E.var 6) (Es.cons (E.bf Bf.str (Es.cons (E.var 7) Es.nil)) Es.nil)))) Ts.nil)) Ts.nil)) Ts.nil) (Ts.cons (T.ret (E.bm Bm.join (E.k (Val.str [32])) (Es.cons (E.var 1) Es.nil))) Ts.nil))))⟩
def d_Site___init__ : Df := ⟨2, 3, (Ts.cons (T.fld (E.var 0) "text" (E.bm Bm.join (E.k (Val.str [10])) (Es.cons (E.comp (E.call F_written (Es.cons (E.var 2) Es.nil)) (Tg.var 2) Ik.seq (Es.cons (E.var 1) Es.nil) E.no) Es.nil))) (Ts.cons (T.fld (E.var 0) "names" (E.bf Bf.tuple (Es.cons (E.comp (E.idx (E.var 2) (E.k (Val.int 0))) (Tg.var 2) Ik.seq (Es.cons (E.var 1) Es.nil) E.no) Es.nil))) (Ts.cons (T.fld (E.var 0) "limits" (E.bf Bf.tuple (Es.cons (E.comp (E.idx (E.var 2) (E.k (Val.int 1))) (Tg.var 2) Ik.seq (Es.cons (E.var 1) Es.nil) E.no) Es.nil))) (Ts.cons (T.fld (E.var 0) "stays" (E.bf Bf.tuple (Es.cons (E.comp (E.idx (E.var 2) (E.k (Val.int 2))) (Tg.var 2) Ik.seq (Es.cons (E.var 1) Es.nil) E.no) Es.nil))) (Ts.cons (T.fld (E.var 0) "ways" (E.bf Bf.tuple (Es.cons (E.comp (E.idx (E.var 2) (E.k (Val.int 3))) (Tg.var 2) Ik.seq (Es.cons (E.var 1) Es.nil) E.no) Es.nil))) Ts.nil)))))⟩
def d_Site_parse : Df := ⟨1, 1, (Ts.cons (T.ret (E.make C_Site (Es.cons (E.call F_read_rows (Es.cons (E.var 0) Es.nil)) Es.nil))) Ts.nil)⟩
def d_Site___str__ : Df := ⟨1, 1, (Ts.cons (T.ret (E.fstr (E.attr (E.var 0) "text"))) Ts.nil)⟩
def d_Site___eq__ : Df := ⟨2, 2, (Ts.cons (T.ret (E.and (E.isi (E.var 1) [(Ty.cls C_Site)]) (E.cmp Cp.eq (E.attr (E.var 0) "text") (E.attr (E.var 1) "text")))) Ts.nil)⟩
def d__law_feed : Df := ⟨2, 5, (Ts.cons (T.asg (Tg.var 2) (E.ite (E.cmp Cp.lt (E.var 1) (E.bf Bf.len (Es.cons (E.var 0) Es.nil))) (E.idx (E.var 0) (E.var 1)) (E.op Op.add (E.op Op.mul (E.k (Val.int 83)) (E.var 1)) (E.k (Val.int 29))))) (Ts.cons (T.asg (Tg.var 3) (E.bf Bf.max (Es.cons (E.k (Val.int 0)) (Es.cons (E.op Op.sub (E.bf Bf.abs (Es.cons (E.var 2) Es.nil)) (E.op Op.pow (E.k (Val.int 10)) (E.k (Val.int 18)))) Es.nil)))) (Ts.cons (T.asg (Tg.var 4) (E.op Op.mod (E.bf Bf.int (Es.cons (E.op Op.add (E.op Op.add (E.op Op.mul (E.var 2) (E.k (Val.int 6364136223846793005))) (E.op Op.mul (E.k (Val.int 7919)) (E.var 1))) (E.k (Val.int 1442695040888963407))) Es.nil)) (E.k (Val.int 2305843009213693951)))) (Ts.cons (T.ret (E.lst (Es.cons (E.var 3) (Es.cons (E.var 4) Es.nil)))) Ts.nil))))⟩
def d__law_take : Df := ⟨2, 3, (Ts.cons (T.ite (E.cmp Cp.gt (E.idx (E.var 0) (E.k (Val.int 0))) (E.k (Val.int 0))) (Ts.cons (T.asg (Tg.var 2) (E.op Op.mod (E.bf Bf.int (Es.cons (E.idx (E.var 0) (E.k (Val.int 0))) Es.nil)) (E.var 1))) (Ts.cons (T.sub (E.var 0) (E.k (Val.int 0)) (E.op Op.fdiv (E.idx (E.var 0) (E.k (Val.int 0))) (E.var 1))) (Ts.cons (T.ret (E.var 2)) Ts.nil))) Ts.nil) (Ts.cons (T.sub (E.var 0) (E.k (Val.int 1)) (E.op Op.mod (E.bf Bf.int (Es.cons (E.op Op.add (E.op Op.mul (E.idx (E.var 0) (E.k (Val.int 1))) (E.k (Val.int 6364136223846793005))) (E.k (Val.int 1442695040888963407))) Es.nil)) (E.k (Val.int 2305843009213693951)))) (Ts.cons (T.ret (E.op Op.mod (E.bf Bf.int (Es.cons (E.op Op.fdiv (E.idx (E.var 0) (E.k (Val.int 1))) (E.k (Val.int 65536))) Es.nil)) (E.var 1))) Ts.nil)))⟩
def d__law_pick : Df := ⟨2, 2, (Ts.cons (T.ret (E.idx (E.var 1) (E.call F__law_take (Es.cons (E.var 0) (Es.cons (E.bf Bf.len (Es.cons (E.var 1) Es.nil)) Es.nil))))) Ts.nil)⟩
def d__law_word : Df := ⟨1, 3, (Ts.cons (T.asg (Tg.var 1) (E.k (Val.str []))) (Ts.cons (T.loop (Tg.var 2) Ik.range (Es.cons (E.op Op.add (E.k (Val.int 1)) (E.call F__law_take (Es.cons (E.var 0) (Es.cons (E.k (Val.int 8)) Es.nil)))) Es.nil) (Ts.cons (T.asg (Tg.var 1) (E.op Op.add (E.var 1) (E.call F__law_pick (Es.cons (E.var 0) (Es.cons (E.bf Bf.list (Es.cons (E.k (Val.str [97, 98, 99, 100, 101, 102, 103, 104, 105, 106, 107, 108, 109, 110, 111, 112, 113, 114, 115, 116, 117, 118, 119, 120, 121, 122])) Es.nil)) Es.nil))))) Ts.nil)) (Ts.cons (T.ret (E.var 1)) Ts.nil)))⟩
def d__law_drawn : Df := ⟨1, 11, (Ts.cons (T.asg (Tg.var 1) (E.call F__law_pick (Es.cons (E.var 0) (Es.cons (E.lst (Es.cons (E.lst (Es.cons (E.k (Val.str [98])) (Es.cons (E.k (Val.str [97])) (Es.cons (E.k (Val.str [100])) (Es.cons (E.k (Val.str [99])) (Es.cons (E.k (Val.str [102])) (Es.cons (E.k (Val.str [101])) Es.nil))))))) (Es.cons (E.lst (Es.cons (E.k (Val.str [115, 116, 97, 121])) (Es.cons (E.k (Val.str [97, 98])) (Es.cons (E.k (Val.str [98])) (Es.cons (E.k (Val.str [97])) (Es.cons (E.k (Val.str [97, 98, 99, 100, 101, 102, 103, 104])) (Es.cons (E.k (Val.str [122])) Es.nil))))))) Es.nil))) Es.nil)))) (Ts.cons (T.ite (E.cmp Cp.eq (E.call F__law_take (Es.cons (E.var 0) (Es.cons (E.k (Val.int 3)) Es.nil))) (E.k (Val.int 0))) (Ts.cons (T.asg (Tg.var 1) (E.rev (E.bf Bf.sset (Es.cons (E.comp (E.call F__law_word (Es.cons (E.var 0) Es.nil)) (Tg.var 10) Ik.range (Es.cons (E.k (Val.int 6)) Es.nil) E.no) Es.nil)))) Ts.nil) Ts.nil) (Ts.cons (T.asg (Tg.var 1) (E.slc (E.var 1) E.no (E.op Op.add (E.k (Val.int 1)) (E.call F__law_take (Es.cons (E.var 0) (Es.cons (E.bf Bf.len (Es.cons (E.var 1) Es.nil)) Es.nil)))))) (Ts.cons (T.asg (Tg.tup [3, 4]) (E.tup (Es.cons (E.lst Es.nil) (Es.cons (E.call F__law_pick (Es.cons (E.var 0) (Es.cons (E.lst (Es.cons (E.k (Val.int 1)) (Es.cons (E.k (Val.int 2)) (Es.cons (E.k (Val.int 3)) Es.nil)))) Es.nil))) Es.nil)))) (Ts.cons (T.loop (Tg.var 2) Ik.seq (Es.cons (E.var 1) Es.nil) (Ts.cons (T.asg (Tg.var 5) (E.comp (E.var 8) (Tg.var 8) Ik.seq (Es.cons (E.bf Bf.sorted (Es.cons (E.var 1) Es.nil)) Es.nil) (E.cmp Cp.lt (E.call F__law_take (Es.cons (E.var 0) (Es.cons (E.k (Val.int 3)) Es.nil))) (E.var 4)))) (Ts.cons (T.asg (Tg.var 5) (E.comp (E.var 8) (Tg.var 8) Ik.seq (Es.cons (E.var 5) Es.nil) (E.cmp Cp.ne (E.var 8) (E.var 2)))) (Ts.cons (T.asg (Tg.var 6) (E.bf Bf.tuple (Es.cons (E.comp (E.tup (Es.cons (E.var 9) (Es.cons (E.op Op.add (E.k (Val.int 1)) (E.call F__law_take (Es.cons (E.var 0) (Es.cons (E.k (Val.int 3)) Es.nil)))) Es.nil))) (Tg.var 9) Ik.seq (Es.cons (E.var 5) Es.nil) E.no) Es.nil))) (Ts.cons (T.asg (Tg.var 7) (E.or (E.cmp Cp.eq (E.var 6) (E.tup Es.nil)) (E.cmp Cp.eq (E.call F__law_take (Es.cons (E.var 0) (Es.cons (E.k (Val.int 3)) Es.nil))) (E.k (Val.int 0))))) (Ts.cons (T.ex (E.bm Bm.append (E.var 3) (Es.cons (E.tup (Es.cons (E.var 2) (Es.cons (E.call F__law_take (Es.cons (E.var 0) (Es.cons (E.k (Val.int 10)) Es.nil))) (Es.cons (E.var 7) (Es.cons (E.var 6) Es.nil))))) Es.nil))) Ts.nil)))))) (Ts.cons (T.ret (E.var 3)) Ts.nil))))))⟩
def d__law_row : Df := ⟨1, 8, (Ts.cons (T.asg (Tg.tup [2, 3, 4, 5]) (E.var 0)) (Ts.cons (T.asg (Tg.var 1) (E.lst (Es.cons (E.var 2) (Es.cons (E.bf Bf.str (Es.cons (E.var 3) Es.nil)) Es.nil)))) (Ts.cons (T.ite (E.var 4) (Ts.cons (T.ex (E.bm Bm.append (E.var 1) (Es.cons (E.k (Val.str [115, 116, 97, 121])) Es.nil))) Ts.nil) Ts.nil) (Ts.cons (T.ite (E.cmp Cp.ne (E.var 5) (E.tup Es.nil)) (Ts.cons (T.ex (E.bm Bm.append (E.var 1) (Es.cons (E.k (Val.str [45, 62])) Es.nil))) Ts.nil) Ts.nil) (Ts.cons (T.loop (Tg.tup [6, 7]) Ik.seq (Es.cons (E.var 5) Es.nil) (Ts.cons (T.asg (Tg.var 1) (E.op Op.add (E.var 1) (E.lst (Es.cons (E.var 6) (Es.cons (E.bf Bf.str (Es.cons (E.var 7) Es.nil)) Es.nil))))) Ts.nil)) (Ts.cons (T.ret (E.bm Bm.join (E.k (Val.str [32])) (Es.cons (E.var 1) Es.nil))) Ts.nil))))))⟩
def d__law_text : Df := ⟨1, 2, (Ts.cons (T.ret (E.bm Bm.join (E.k (Val.str [10])) (Es.cons (E.comp (E.call F__law_row (Es.cons (E.var 1) Es.nil)) (Tg.var 1) Ik.seq (Es.cons (E.var 0) Es.nil) E.no) Es.nil))) Ts.nil)⟩
def d__law_is_name : Df := ⟨1, 2, (Ts.cons (T.ite (E.not (E.chain Cp.le Cp.le (E.k (Val.int 1)) (E.bf Bf.len (Es.cons (E.var 0) Es.nil)) (E.k (Val.int 8)))) (Ts.cons (T.ret (E.k (Val.bl false))) Ts.nil) Ts.nil) (Ts.cons (T.ret (E.cmp Cp.eq (E.comp (E.var 1) (Tg.var 1) Ik.seq (Es.cons (E.var 0) Es.nil) (E.cmp Cp.nmem (E.var 1) (E.k (Val.str [97, 98, 99, 100, 101, 102, 103, 104, 105, 106, 107, 108, 109, 110, 111, 112, 113, 114, 115, 116, 117, 118, 119, 120, 121, 122])))) (E.lst Es.nil))) Ts.nil))⟩
def d__law_are_ways : Df := ⟨3, 6, (Ts.cons (T.ite (E.or (E.cmp Cp.eq (E.var 0) (E.lst Es.nil)) (E.cmp Cp.ne (E.op Op.mod (E.bf Bf.len (Es.cons (E.var 0) Es.nil)) (E.k (Val.int 2))) (E.k (Val.int 0)))) (Ts.cons (T.ret (E.k (Val.bl false))) Ts.nil) Ts.nil) (Ts.cons (T.asg (Tg.var 3) (E.k (Val.str []))) (Ts.cons (T.loop (Tg.var 4) Ik.range3 (Es.cons (E.k (Val.int 0)) (Es.cons (E.bf Bf.len (Es.cons (E.var 0) Es.nil)) (Es.cons (E.k (Val.int 2)) Es.nil))) (Ts.cons (T.asg (Tg.var 5) (E.idx (E.var 0) (E.var 4))) (Ts.cons (T.ite (E.or (E.not (E.call F__law_is_name (Es.cons (E.var 5) Es.nil))) (E.or (E.cmp Cp.eq (E.var 5) (E.var 1)) (E.or (E.cmp Cp.nmem (E.var 5) (E.var 2)) (E.cmp Cp.le (E.var 5) (E.var 3))))) (Ts.cons (T.ret (E.k (Val.bl false))) Ts.nil) Ts.nil) (Ts.cons (T.ite (E.cmp Cp.nmem (E.idx (E.var 0) (E.op Op.add (E.var 4) (E.k (Val.int 1)))) (E.lst (Es.cons (E.k (Val.str [49])) (Es.cons (E.k (Val.str [50])) (Es.cons (E.k (Val.str [51])) Es.nil))))) (Ts.cons (T.ret (E.k (Val.bl false))) Ts.nil) Ts.nil) (Ts.cons (T.asg (Tg.var 3) (E.var 5)) Ts.nil))))) (Ts.cons (T.ret (E.k (Val.bl true))) Ts.nil))))⟩
def d__law_is_row : Df := ⟨3, 5, (Ts.cons (T.asg (Tg.var 3) (E.bm Bm.split (E.var 0) (Es.cons (E.k (Val.str [32])) Es.nil))) (Ts.cons (T.ite (E.or (E.not (E.call F__law_is_name (Es.cons (E.idx (E.var 3) (E.k (Val.int 0))) Es.nil))) (E.or (E.cmp Cp.mem (E.idx (E.var 3) (E.k (Val.int 0))) (E.slc (E.var 1) E.no (E.var 2))) (E.cmp Cp.lt (E.bf Bf.len (Es.cons (E.var 3) Es.nil)) (E.k (Val.int 3))))) (Ts.cons (T.ret (E.k (Val.bl false))) Ts.nil) Ts.nil) (Ts.cons (T.ite (E.cmp Cp.nmem (E.idx (E.var 3) (E.k (Val.int 1))) (E.lst (Es.cons (E.k (Val.str [48])) (Es.cons (E.k (Val.str [49])) (Es.cons (E.k (Val.str [50])) (Es.cons (E.k (Val.str [51])) (Es.cons (E.k (Val.str [52])) (Es.cons (E.k (Val.str [53])) (Es.cons (E.k (Val.str [54])) (Es.cons (E.k (Val.str [55])) (Es.cons (E.k (Val.str [56])) (Es.cons (E.k (Val.str [57])) Es.nil)))))))))))) (Ts.cons (T.ret (E.k (Val.bl false))) Ts.nil) Ts.nil) (Ts.cons (T.asg (Tg.var 4) (E.ite (E.cmp Cp.eq (E.idx (E.var 3) (E.k (Val.int 2))) (E.k (Val.str [115, 116, 97, 121]))) (E.slc (E.var 3) (E.k (Val.int 3)) E.no) (E.slc (E.var 3) (E.k (Val.int 2)) E.no))) (Ts.cons (T.ite (E.cmp Cp.eq (E.var 4) (E.lst Es.nil)) (Ts.cons (T.ret (E.k (Val.bl true))) Ts.nil) Ts.nil) (Ts.cons (T.ret (E.and (E.cmp Cp.eq (E.idx (E.var 4) (E.k (Val.int 0))) (E.k (Val.str [45, 62]))) (E.call F__law_are_ways (Es.cons (E.slc (E.var 4) (E.k (Val.int 1)) E.no) (Es.cons (E.idx (E.var 3) (E.k (Val.int 0))) (Es.cons (E.var 1) Es.nil)))))) Ts.nil))))))⟩
def d__law_bad_row : Df := ⟨1, 5, (Ts.cons (T.asg (Tg.var 1) (E.bm Bm.split (E.var 0) (Es.cons (E.k (Val.str [10])) Es.nil))) (Ts.cons (T.asg (Tg.var 2) (E.comp (E.idx (E.bm Bm.split (E.var 4) (Es.cons (E.k (Val.str [32])) Es.nil)) (E.k (Val.int 0))) (Tg.var 4) Ik.seq (Es.cons (E.var 1) Es.nil) E.no)) (Ts.cons (T.loop (Tg.tup [3, 4]) Ik.enum (Es.cons (E.var 1) Es.nil) (Ts.cons (T.ite (E.or (E.cmp Cp.ge (E.var 3) (E.k (Val.int 6))) (E.not (E.call F__law_is_row (Es.cons (E.var 4) (Es.cons (E.var 2) (Es.cons (E.var 3) Es.nil)))))) (Ts.cons (T.ret (E.var 3)) Ts.nil) Ts.nil) Ts.nil)) (Ts.cons (T.ret (E.k Val.non)) Ts.nil))))⟩
def d__law_said : Df := ⟨1, 4, (Ts.cons (T.asg (Tg.var 1) (E.k Val.non)) (Ts.cons (T.tr (Ts.cons (T.ex (E.call F_Site_parse (Es.cons (E.var 0) Es.nil))) Ts.nil) C_WalkError (some 2) (Ts.cons (T.asg (Tg.var 3) (E.k (Val.bl true))) (Ts.cons (T.asg (Tg.var 1) (E.xat "row")) Ts.nil))) (Ts.cons (T.ret (E.var 1)) Ts.nil)))⟩
def d__law_other_row : Df := ⟨3, 12, (Ts.cons (T.par 7 8 (E.bm Bm.split (E.idx (E.var 1) (E.var 2)) (Es.cons (E.k (Val.str [32])) Es.nil)) (E.comp (E.idx (E.bm Bm.split (E.var 11) (Es.cons (E.k (Val.str [32])) Es.nil)) (E.k (Val.int 0))) (Tg.var 11) Ik.seq (Es.cons (E.var 1) Es.nil) E.no)) (Ts.cons (T.asg (Tg.var 3) (E.call F__law_take (Es.cons (E.var 0) (Es.cons (E.bf Bf.len (Es.cons (E.var 7) Es.nil)) Es.nil)))) (Ts.cons (T.asg (Tg.var 4) (E.lst (Es.cons (E.k (Val.str [115, 116, 97, 121])) (Es.cons (E.k (Val.str [45, 62])) (Es.cons (E.k (Val.str [])) (Es.cons (E.k (Val.str [48])) (Es.cons (E.k (Val.str [49])) (Es.cons (E.k (Val.str [51])) (Es.cons (E.k (Val.str [52])) (Es.cons (E.k (Val.str [57])) (Es.cons (E.k (Val.str [49, 48])) (Es.cons (E.k (Val.str [48, 49])) (Es.cons (E.k (Val.str [45, 49])) (Es.cons (E.k (Val.str [97])) (Es.cons (E.k (Val.str [122, 122])) (Es.cons (E.k (Val.str [65, 98])) (Es.cons (E.k (Val.str [97, 98, 99, 100, 101, 102, 103, 104, 105])) (Es.cons (E.k (Val.str [45])) (Es.cons (E.k (Val.str [62])) Es.nil))))))))))))))))))) (Ts.cons (T.asg (Tg.var 4) (E.op Op.add (E.var 4) (E.lst (Es.cons (E.k (Val.str [43, 49])) (Es.cons (E.k (Val.str [43, 51])) (Es.cons (E.k (Val.str [32, 49])) (Es.cons (E.k (Val.str [49, 46, 48])) (Es.cons (E.k (Val.str [49, 95, 48])) Es.nil)))))))) (Ts.cons (T.asg (Tg.var 5) (E.call F__law_pick (Es.cons (E.var 0) (Es.cons (E.op Op.add (E.op Op.add (E.op Op.add (E.var 4) (E.var 8)) (E.var 8)) (E.var 7)) Es.nil)))) (Ts.cons (T.par 9 10 (E.slc (E.var 7) E.no (E.var 3)) (E.slc (E.var 7) (E.op Op.add (E.var 3) (E.k (Val.int 1))) E.no)) (Ts.cons (T.asg (Tg.var 6) (E.lst (Es.cons (E.op Op.add (E.op Op.add (E.var 9) (E.lst (Es.cons (E.var 5) Es.nil))) (E.var 10)) (Es.cons (E.op Op.add (E.op Op.add (E.var 9) (E.lst (Es.cons (E.var 5) Es.nil))) (E.slc (E.var 7) (E.var 3) E.no)) (Es.cons (E.op Op.add (E.var 9) (E.var 10)) Es.nil))))) (Ts.cons (T.asg (Tg.var 6) (E.op Op.add (E.var 6) (E.lst (Es.cons (E.op Op.add (E.var 7) (E.lst (Es.cons (E.var 5) Es.nil))) (Es.cons (E.op Op.add (E.var 7) (E.slc (E.var 7) (E.neg (E.k (Val.int 2))) E.no)) Es.nil))))) (Ts.cons (T.ret (E.bm Bm.join (E.k (Val.str [32])) (Es.cons (E.call F__law_pick (Es.cons (E.var 0) (Es.cons (E.var 6) Es.nil))) Es.nil))) Ts.nil)))))))))⟩
def d__law_spoilt : Df := ⟨2, 8, (Ts.cons (T.par 3 4 (E.bm Bm.split (E.var 1) (Es.cons (E.k (Val.str [10])) Es.nil)) (E.call F__law_take (Es.cons (E.var 0) (Es.cons (E.k (Val.int 7)) Es.nil)))) (Ts.cons (T.par 5 6 (E.call F__law_take (Es.cons (E.var 0) (Es.cons (E.bf Bf.len (Es.cons (E.var 3) Es.nil)) Es.nil))) (E.call F__law_take (Es.cons (E.var 0) (Es.cons (E.op Op.add (E.bf Bf.len (Es.cons (E.var 1) Es.nil)) (E.k (Val.int 1))) Es.nil)))) (Ts.cons (T.asg (Tg.var 2) (E.bf Bf.list (Es.cons (E.k (Val.str [32, 10, 9, 45, 44, 59, 58, 46, 62, 95, 47, 39, 34, 124, 126, 43, 42, 33, 35, 36, 38, 40, 41, 60, 61, 63, 64, 91, 92, 93, 94, 123, 125, 96])) Es.nil))) (Ts.cons (T.asg (Tg.var 2) (E.op Op.add (E.var 2) (E.bf Bf.list (Es.cons (E.k (Val.str [48, 49, 50, 51, 52, 53, 54, 55, 56, 57, 97, 122, 65, 90, 109, 115])) Es.nil)))) (Ts.cons (T.ite (E.cmp Cp.eq (E.var 4) (E.k (Val.int 0))) (Ts.cons (T.ret (E.op Op.add (E.op Op.add (E.slc (E.var 1) E.no (E.var 6)) (E.call F__law_pick (Es.cons (E.var 0) (Es.cons (E.var 2) Es.nil)))) (E.slc (E.var 1) (E.var 6) E.no))) Ts.nil) Ts.nil) (Ts.cons (T.ite (E.cmp Cp.eq (E.var 4) (E.k (Val.int 1))) (Ts.cons (T.ret (E.op Op.add (E.slc (E.var 1) E.no (E.var 6)) (E.slc (E.var 1) (E.op Op.add (E.var 6) (E.k (Val.int 1))) E.no))) Ts.nil) Ts.nil) (Ts.cons (T.ite (E.cmp Cp.eq (E.var 4) (E.k (Val.int 2))) (Ts.cons (T.ret (E.op Op.add (E.op Op.add (E.slc (E.var 1) E.no (E.var 6)) (E.call F__law_pick (Es.cons (E.var 0) (Es.cons (E.var 2) Es.nil)))) (E.slc (E.var 1) (E.op Op.add (E.var 6) (E.k (Val.int 1))) E.no))) Ts.nil) Ts.nil) (Ts.cons (T.ite (E.cmp Cp.eq (E.var 4) (E.k (Val.int 3))) (Ts.cons (T.ret (E.bm Bm.join (E.k (Val.str [10])) (Es.cons (E.op Op.add (E.slc (E.var 3) E.no (E.var 5)) (E.slc (E.var 3) (E.op Op.add (E.var 5) (E.k (Val.int 1))) E.no)) Es.nil))) Ts.nil) Ts.nil) (Ts.cons (T.ite (E.cmp Cp.eq (E.var 4) (E.k (Val.int 4))) (Ts.cons (T.ret (E.bm Bm.join (E.k (Val.str [10])) (Es.cons (E.op Op.add (E.op Op.add (E.slc (E.var 3) E.no (E.var 5)) (E.lst (Es.cons (E.call F__law_pick (Es.cons (E.var 0) (Es.cons (E.var 3) Es.nil))) Es.nil))) (E.slc (E.var 3) (E.var 5) E.no)) Es.nil))) Ts.nil) Ts.nil) (Ts.cons (T.ite (E.cmp Cp.eq (E.var 4) (E.k (Val.int 5))) (Ts.cons (T.asg (Tg.var 7) (E.lst (Es.cons (E.k (Val.str [111, 110, 101, 32, 49, 32, 115, 116, 97, 121])) (Es.cons (E.k (Val.str [116, 119, 111, 32, 50, 32, 115, 116, 97, 121])) (Es.cons (E.k (Val.str [116, 104, 114, 101, 101, 32, 51, 32, 115, 116, 97, 121])) (Es.cons (E.k (Val.str [102, 111, 117, 114, 32, 52, 32, 115, 116, 97, 121])) (Es.cons (E.k (Val.str [102, 105, 118, 101, 32, 53, 32, 115, 116, 97, 121])) (Es.cons (E.k (Val.str [115, 105, 120, 32, 54, 32, 115, 116, 97, 121])) (Es.cons (E.k (Val.str [103, 111, 32, 48, 32, 115, 116, 97, 121])) Es.nil))))))))) (Ts.cons (T.ret (E.bm Bm.join (E.k (Val.str [10])) (Es.cons (E.op Op.add (E.var 3) (E.slc (E.var 7) E.no (E.op Op.add (E.k (Val.int 1)) (E.call F__law_take (Es.cons (E.var 0) (Es.cons (E.k (Val.int 7)) Es.nil)))))) Es.nil))) Ts.nil)) Ts.nil) (Ts.cons (T.ret (E.bm Bm.join (E.k (Val.str [10])) (Es.cons (E.op Op.add (E.op Op.add (E.slc (E.var 3) E.no (E.var 5)) (E.lst (Es.cons (E.call F__law_other_row (Es.cons (E.var 0) (Es.cons (E.var 3) (Es.cons (E.var 5) Es.nil)))) Es.nil))) (E.slc (E.var 3) (E.op Op.add (E.var 5) (E.k (Val.int 1))) E.no)) Es.nil))) Ts.nil)))))))))))⟩
def d_law : Df := ⟨1, 9, (Ts.cons (T.asg (Tg.var 1) (E.lst Es.nil)) (Ts.cons (T.loop (Tg.var 2) Ik.range (Es.cons (E.k (Val.int 45)) Es.nil) (Ts.cons (T.asg (Tg.var 1) (E.lst (Es.cons (E.var 1) Es.nil))) Ts.nil)) (Ts.cons (T.loop (Tg.var 3) Ik.seq (Es.cons (E.tup (Es.cons (E.k Val.non) (Es.cons (E.k (Val.int 0)) (Es.cons (E.k (Val.bl true)) (Es.cons (E.lst Es.nil) (Es.cons (E.lst (Es.cons (E.k (Val.str [97, 32, 49, 32, 115, 116, 97, 121])) Es.nil)) (Es.cons (E.dk []) (Es.cons (E.tup (Es.cons (E.k (Val.str [97, 32, 49, 32, 115, 116, 97, 121])) Es.nil)) (Es.cons (E.var 1) (Es.cons (E.k (Val.str [])) Es.nil)))))))))) Es.nil) (Ts.cons (T.ite (E.cmp Cp.ne (E.bf Bf.repr (Es.cons (E.call F__law_said (Es.cons (E.var 3) Es.nil)) Es.nil)) (E.k (Val.str [48]))) (Ts.cons (T.ret (E.k (Val.bl false))) Ts.nil) Ts.nil) Ts.nil)) (Ts.cons (T.loop (Tg.var 4) Ik.range (Es.cons (E.bf Bf.max (Es.cons (E.k (Val.int 2)) (Es.cons (E.bf Bf.min (Es.cons (E.k (Val.int 5)) (Es.cons (E.bf Bf.len (Es.cons (E.var 0) Es.nil)) Es.nil))) Es.nil))) Es.nil) (Ts.cons (T.asg (Tg.var 5) (E.call F__law_feed (Es.cons (E.var 0) (Es.cons (E.var 4) Es.nil)))) (Ts.cons (T.loop (Tg.var 2) Ik.range (Es.cons (E.k (Val.int 6)) Es.nil) (Ts.cons (T.asg (Tg.var 6) (E.call F__law_text (Es.cons (E.call F__law_drawn (Es.cons (E.var 5) Es.nil)) Es.nil))) (Ts.cons (T.loop (Tg.var 7) Ik.range (Es.cons (E.k (Val.int 4)) Es.nil) (Ts.cons (T.asg (Tg.var 8) (E.call F__law_bad_row (Es.cons (E.var 6) Es.nil))) (Ts.cons (T.ite (E.cmp Cp.ne (E.bf Bf.repr (Es.cons (E.call F__law_said (Es.cons (E.var 6) Es.nil)) Es.nil)) (E.bf Bf.repr (Es.cons (E.var 8) Es.nil))) (Ts.cons (T.ret (E.k (Val.bl false))) Ts.nil) Ts.nil) (Ts.cons (T.ite (E.and (E.cmp Cp.isN (E.var 8) (E.k Val.non)) (E.cmp Cp.ne (E.bf Bf.str (Es.cons (E.call F_Site_parse (Es.cons (E.var 6) Es.nil)) Es.nil)) (E.var 6))) (Ts.cons (T.ret (E.k (Val.bl false))) Ts.nil) Ts.nil) (Ts.cons (T.asg (Tg.var 6) (E.call F__law_spoilt (Es.cons (E.var 5) (Es.cons (E.var 6) Es.nil)))) Ts.nil))))) Ts.nil))) Ts.nil))) (Ts.cons (T.ret (E.k (Val.bl true))) Ts.nil)))))⟩
def fsA : List Df := ([d_InvalidText___init__, d_is_name, d_read_figure, d_read_ways, d_read_row, d_read_rows, d_written, d_Site___init__, d_Site_parse, d_Site___str__, d_Site___eq__, d__law_feed, d__law_take, d__law_pick, d__law_word, d__law_drawn] : List Df) ++ ([d__law_row, d__law_text, d__law_is_name, d__law_are_ways, d__law_is_row, d__law_bad_row, d__law_said, d__law_other_row, d__law_spoilt, d_law] : List Df)
def csA : List Cl := ([⟨true, none, [], none, none, [], [C_WalkError], none, none⟩, ⟨true, none, [], none, none, [], [C_InvalidText, C_WalkError], some "row", some F_InvalidText___init__⟩, ⟨false, some F_Site___init__, [], some F_Site___eq__, some F_Site___str__, ["text", "names", "limits", "stays", "ways"], [], none, none⟩] : List Cl)
def pgA : Pg := ⟨fun i => fsA[i]?, fun i => csA[i]?⟩
def wfA : Nat := 100000
end PI
end

section
set_option Elab.async false
set_option linter.all false
set_option maxRecDepth 100000
/-! PyW0: running the interpreter by rules. -/
namespace PI.MX
open PySem (Str)
/-- m runs to a value that Q holds of -/
inductive Ok {α : Type} (m : M α) (s : S) (Q : α → S → Prop) : Prop
  | mk (h : match m s with | .ok a s' => Q a s' | _ => False) : Ok m s Q
theorem Ok_def {α : Type} {m : M α} {s : S} {Q : α → S → Prop} : Ok m s Q ↔ (match m s with | .ok a s' => Q a s' | _ => False) := ⟨fun ⟨h⟩ => h, fun h => ⟨h⟩⟩
/-- a statement runs on (N) or returns (T) -/
inductive OkT (r : RS) (N : Fr → S → Prop) (Rt : Val → S → Prop) : Prop
  | mk (h : match r with | .nx fr s => N fr s | .rt v s => Rt v s | _ => False) : OkT r N Rt
theorem OkT_def {r : RS} {N : Fr → S → Prop} {Rt : Val → S → Prop} : OkT r N Rt ↔ (match r with | .nx fr s => N fr s | .rt v s => Rt v s | _ => False) := ⟨fun ⟨h⟩ => h, fun h => ⟨h⟩⟩
section
variable {α β : Type} {m : M α} {f : α → M β} {s : S} {Q : β → S → Prop} {g : G} {fr : Fr} {QV : Val → S → Prop} {N : Fr → S → Prop} {Rt : Val → S → Prop}
theorem Ok.eq {m : M α} {a : α} {s2 : S} (h : Ok m s fun x s' => x = a ∧ s' = s2) : m s = .ok a s2 := by
  rw [Ok_def] at h
  cases e : m s with
  | ok x s' =>
    rw [e] at h
    obtain ⟨h1, h2⟩ := h
    rw [h1, h2]
  | ex _ _ => rw [e] at h; exact h.elim
  | bad => rw [e] at h; exact h.elim
theorem ok_iff {m : M α} {P P2 : α → S → Prop} (h : ∀ a s2, P a s2 ↔ P2 a s2) : Ok m s P ↔ Ok m s P2 := by
  simp only [Ok_def]
  cases m s with
  | ok a s2 => exact h a s2
  | ex _ _ => exact Iff.rfl
  | bad => exact Iff.rfl
theorem ok_of {m : M α} {a : α} {s2 : S} {P : α → S → Prop} (h : m s = .ok a s2) : Ok m s P ↔ P a s2 := by
  simp only [Ok_def]
  rw [h]
@[scoped simp] theorem ok_ret {a : α} {P : α → S → Prop} : Ok (ret a) s P ↔ P a s := Ok_def
@[scoped simp] theorem ok_bnd : Ok (bnd m f) s Q ↔ Ok m s fun a s' => Ok (f a) s' Q := by
  simp only [Ok_def, bnd]
  cases m s <;> exact Iff.rfl
@[scoped simp] theorem ok_chk {c : Bool} {P : α → S → Prop} : Ok (chk c m) s P ↔ c = true ∧ Ok m s P := by
  cases c
  · exact ⟨fun h => (Ok_def.mp h).elim, fun h => by cases h.1⟩
  · exact ⟨fun h => ⟨rfl, h⟩, fun h => h.2⟩
theorem ok_chkR {c : Bool} {a : α} {P : α → S → Prop} : Ok (chk c (ret a)) s P ↔ c = true ∧ P a s := by rw [ok_chk, ok_ret]
@[scoped simp] theorem ok_some {a : α} {P : α → S → Prop} : Ok (opt (some a)) s P ↔ P a s := Ok_def
theorem ok_look {i : Nat} {o : Ob} {P : Ob → S → Prop} (h : s.st[i]? = some o) : Ok (look i) s P ↔ P o s := by
  simp only [Ok_def, look]
  rw [h]
@[scoped simp] theorem ok_put {i : Nat} {o : Ob} {P : Unit → S → Prop} : Ok (put i o) s P ↔ P () ⟨s.st.set i o, if obRef o then min s.w i else s.w⟩ := Ok_def
@[scoped simp] theorem ok_k {v : Val} : Ok (ev g fr (.k v)) s QV ↔ QV v s := by simp [ev]
theorem ok_var {i : Nat} {v : Val} (h : fr[i]? = some (some v)) : Ok (ev g fr (.var i)) s QV ↔ QV v s := by simp [ev, h]
@[scoped simp] theorem ok_op {o : Op} {a b : E} : Ok (ev g fr (.op o a b)) s QV ↔ Ok (ev g fr a) s fun x s1 => Ok (ev g fr b) s1 fun y s2 => Ok (opv o x y) s2 QV := by simp [ev]
@[scoped simp] theorem ok_idx {a b : E} : Ok (ev g fr (.idx a b)) s QV ↔ Ok (ev g fr a) s fun x s1 => Ok (ev g fr b) s1 fun y s2 => Ok (idxv x y) s2 QV := by simp [ev]
@[scoped simp] theorem ok_cmp {o : Cp} {a b : E} : Ok (ev g fr (.cmp o a b)) s QV ↔ Ok (ev g fr a) s fun x s1 => Ok (ev g fr b) s1 fun y s2 => Ok (cmpv g o x y) s2 fun k s3 => QV (.bl k) s3 := by simp [ev]
@[scoped simp] theorem ok_not {a : E} : Ok (ev g fr (.not a)) s QV ↔ Ok (ev g fr a) s fun x s1 => Ok (truth x) s1 fun k s2 => QV (.bl (!k)) s2 := by simp [ev]
@[scoped simp] theorem ok_bf {b : Bf} {es : Es} : Ok (ev g fr (.bf b es)) s QV ↔ Ok (evs g fr es) s fun vs s1 => Ok (bfv g b vs) s1 QV := by simp [ev]
@[scoped simp] theorem ok_call {f : Nat} {es : Es} : Ok (ev g fr (.call f es)) s QV ↔ Ok (evs g fr es) s fun vs s1 => Ok (g.call f vs) s1 QV := by simp [ev]
@[scoped simp] theorem ok_nil {P : List Val → S → Prop} : Ok (evs g fr .nil) s P ↔ P [] s := by simp [evs]
@[scoped simp] theorem ok_cons {e : E} {r : Es} {P : List Val → S → Prop} : Ok (evs g fr (.cons e r)) s P ↔ Ok (ev g fr e) s fun v s1 => Ok (evs g fr r) s1 fun vs s2 => P (v :: vs) s2 := by simp [evs]
@[scoped simp] theorem ok_truth {b : Bool} {P : Bool → S → Prop} : Ok (truth (.bl b)) s P ↔ P b s := Ok_def
@[scoped simp] theorem ok_addI {i j : Int} : Ok (opv .add (.int i) (.int j)) s QV ↔ QV (.int (i + j)) s := Ok_def
@[scoped simp] theorem ok_subI {i j : Int} : Ok (opv .sub (.int i) (.int j)) s QV ↔ QV (.int (i - j)) s := Ok_def
@[scoped simp] theorem ok_mulI {i j : Int} : Ok (opv .mul (.int i) (.int j)) s QV ↔ (smallI i || smallI j) = true ∧ QV (.int (i * j)) s := ok_chkR
@[scoped simp] theorem ok_modI {i j : Int} : Ok (opv .mod (.int i) (.int j)) s QV ↔ (j != 0) = true ∧ QV (.int (i.fmod j)) s := ok_chkR
@[scoped simp] theorem ok_fdivI {i j : Int} : Ok (opv .fdiv (.int i) (.int j)) s QV ↔ (j != 0 && decide (j.natAbs < 1073741824)) = true ∧ QV (.int (i.fdiv j)) s := ok_chkR
@[scoped simp] theorem ok_gtI {i j : Int} {P : Bool → S → Prop} : Ok (cmpv g .gt (.int i) (.int j)) s P ↔ P (decide (j < i)) s := Ok_def
@[scoped simp] theorem ok_ltI {i j : Int} {P : Bool → S → Prop} : Ok (cmpv g .lt (.int i) (.int j)) s P ↔ P (decide (i < j)) s := Ok_def
@[scoped simp] theorem ok_intI {i : Int} : Ok (bfv g .int [.int i]) s QV ↔ QV (.int i) s := Ok_def
theorem ok_idxR {st : List Ob} {w r : Nat} {i : Int} {xs : List Val} {v : Val} (h : st[r]? = some (.lst xs)) (h2 : atI xs i = some v) : Ok (idxv (.ref r) (.int i)) ⟨st, w⟩ QV ↔ QV v ⟨st, w⟩ := by
  show Ok (bnd (look r) fun o => bnd (opt (lstOf o)) fun xs => opt (atI xs i)) ⟨st, w⟩ QV ↔ _
  rw [ok_bnd, ok_look (s := ⟨st, w⟩) h]
  simp [lstOf, h2]
/-! ### statements -/
theorem okt_wE {m : M α} {k : α → S → RS} : OkT (wE m fr k s) N Rt ↔ Ok m s fun a s1 => OkT (k a s1) N Rt := by
  simp only [Ok_def, OkT_def, wE]
  cases m s <;> exact Iff.rfl
@[scoped simp] theorem okt_nx {s : S} : OkT (.nx fr s) N Rt ↔ N fr s := OkT_def
@[scoped simp] theorem okt_rt {v : Val} : OkT (.rt v s) N Rt ↔ Rt v s := OkT_def
@[scoped simp] theorem okt_nil : OkT (exTs g .nil fr s) N Rt ↔ N fr s := by simp [exTs]
@[scoped simp] theorem okt_cons {t : T} {r : Ts} : OkT (exTs g (.cons t r) fr s) N Rt ↔ OkT (exT g t fr s) (fun fr2 s2 => OkT (exTs g r fr2 s2) N Rt) Rt := by
  simp only [exTs]
  simp only [OkT_def]
  cases exT g t fr s <;> exact Iff.rfl
@[scoped simp] theorem okt_ret {e : E} : OkT (exT g (.ret e) fr s) N Rt ↔ Ok (ev g fr e) s Rt := by simp only [exT, okt_wE, okt_rt]
@[scoped simp] theorem okt_ex {e : E} : OkT (exT g (.ex e) fr s) N Rt ↔ Ok (ev g fr e) s fun _ s1 => N fr s1 := by simp only [exT, okt_wE, okt_nx]
@[scoped simp] theorem okt_asg {i : Nat} {e : E} : OkT (exT g (.asg (.var i) e) fr s) N Rt ↔ Ok (ev g fr e) s fun v s1 => N (fr.set i (some v)) s1 := by simp only [exT, okt_wE, setTg, okt_nx]
@[scoped simp] theorem okt_par {i j : Nat} {a b : E} : OkT (exT g (.par i j a b) fr s) N Rt ↔ Ok (ev g fr a) s fun x s1 => Ok (ev g fr b) s1 fun y s2 => N ((fr.set i (some x)).set j (some y)) s2 := by simp only [exT, okt_wE, ok_bnd, ok_ret, okt_nx]
@[scoped simp] theorem okt_sub {a b e : E} : OkT (exT g (.sub a b e) fr s) N Rt ↔ Ok (ev g fr e) s fun v s1 => Ok (ev g fr a) s1 fun x s2 => Ok (ev g fr b) s2 fun i s3 => Ok (setSub x i v) s3 fun _ s4 => N fr s4 := by simp only [exT, okt_wE, ok_bnd, okt_nx]
@[scoped simp] theorem okt_ite {c : E} {a b : Ts} : OkT (exT g (.ite c a b) fr s) N Rt ↔ Ok (ev g fr c) s fun x s1 => Ok (truth x) s1 fun k s2 => if k = true then OkT (exTs g a fr s2) N Rt else OkT (exTs g b fr s2) N Rt := by
  simp only [exT, okt_wE, ok_bnd]
  exact ok_iff fun x s1 => ok_iff fun k s2 => by cases k <;> simp
theorem ok_setSub {st : List Ob} {w r : Nat} {k : Int} {v : Val} {xs : List Val} {j : Nat} {P : Unit → S → Prop} (h : st[r]? = some (.lst xs)) (h2 : ixN xs.length k = some j) :
    Ok (setSub (.ref r) (.int k) v) ⟨st, w⟩ P ↔ P () ⟨st.set r (.lst (xs.set j v)), if obRef (.lst (xs.set j v)) then min w r else w⟩ := by
  show Ok (bnd (look r) fun o => bnd (opt (lstOf o)) fun xs => bnd (opt (ixN xs.length k)) fun j => put r (.lst (xs.set j v))) ⟨st, w⟩ P ↔ _
  rw [ok_bnd, ok_look (s := ⟨st, w⟩) h]
  simp [lstOf, h2]
/-! ### calls -/
theorem ok_callN {pg : Pg} {wf d f : Nat} {df : Df} {vs : List Val} {st : List Ob} {w : Nat} {P : Val → S → Prop} (h : pg.fs f = some df) (hl : vs.length = df.np)
    (hq : OkT (exTs ⟨callN pg wf d, pg, none, wf⟩ df.body (vs.map some ++ List.replicate (df.ns - df.np) none) ⟨st, st.length⟩) (fun _ s2 => Ok (leave st.length w .non) s2 P) (fun v s2 => Ok (leave st.length w v) s2 P)) :
    Ok (callN pg wf (d + 1) f vs) ⟨st, w⟩ P := by
  simp only [Ok_def]
  have e : callN pg wf (d + 1) f vs ⟨st, w⟩ = (match exTs ⟨callN pg wf d, pg, none, wf⟩ df.body (vs.map some ++ List.replicate (df.ns - df.np) none) ⟨st, st.length⟩ with
        | .nx _ s2 => leave st.length w .non s2
        | .rt v s2 => leave st.length w v s2
        | .ex x _ s2 => leaveX st.length w x s2
        | .bad => .bad) := by
    show (match pg.fs f with
      | some df => _
      | none => _) = _
    rw [h]
    simp only
    rw [if_pos hl] <;> rfl
  rw [e]
  rw [OkT_def] at hq
  cases q : exTs ⟨callN pg wf d, pg, none, wf⟩ df.body (vs.map some ++ List.replicate (df.ns - df.np) none) ⟨st, st.length⟩ with
  | nx fr2 s2 => rw [q] at hq; exact Ok_def.mp hq
  | rt v s2 => rw [q] at hq; exact Ok_def.mp hq
  | ex x fr2 s2 => rw [q] at hq; exact hq.elim
  | bad => rw [q] at hq; exact hq.elim
/-- a value without an address is given back -/
theorem ok_leave {st : List Ob} {w b w0 : Nat} {v : Val} {P : Val → S → Prop} (hw : b ≤ w) (hv : hasRef v = false) : Ok (leave b w0 v) ⟨st, w⟩ P ↔ P v ⟨st.take b, w0⟩ := by
  simp only [Ok_def, leave]
  rw [if_pos (show b ≤ (S.mk st w).w from hw)]
  cases v <;> first | (simp [hasRef] at hv; done) | (simp [hv]; done) | (simp [hasRef]; done)
/-- a new object without an address is given back -/
theorem ok_leaveR {st : List Ob} {w b w0 r : Nat} {o : Ob} {P : Val → S → Prop} (hw : b ≤ w) (hr : b ≤ r) (ho : st[r]? = some o) (hv : obRef o = false) : Ok (leave b w0 (.ref r)) ⟨st, w⟩ P ↔ P (.ref b) ⟨st.take b ++ [o], w0⟩ := by
  simp only [Ok_def, leave]
  rw [if_pos (show b ≤ (S.mk st w).w from hw)]
  rw [if_neg (by omega), show (S.mk st w).st[r]? = some o from ho]
  simp [hv]
/-- an old object is given back -/
theorem ok_leaveO {st : List Ob} {w b w0 r : Nat} {P : Val → S → Prop} (hw : b ≤ w) (hr : r < b) : Ok (leave b w0 (.ref r)) ⟨st, w⟩ P ↔ P (.ref r) ⟨st.take b, w0⟩ := by
  simp only [Ok_def, leave]
  rw [if_pos (show b ≤ (S.mk st w).w from hw)]
  rw [if_pos hr]
theorem ok_lenR {st : List Ob} {w r : Nat} {xs : List Val} (h : st[r]? = some (.lst xs)) : Ok (bfv g .len [.ref r]) ⟨st, w⟩ QV ↔ QV (.int xs.length) ⟨st, w⟩ := by
  show Ok (bnd (look r) fun o => bnd (opt (lstOf o)) fun xs => ret (.int xs.length)) ⟨st, w⟩ QV ↔ _
  rw [ok_bnd, ok_look (s := ⟨st, w⟩) h]
  simp [lstOf]
/-! ### loops -/
theorem okt_mono {r : RS} {N2 : Fr → S → Prop} (h : OkT r N Rt) (k : ∀ fr s, N fr s → N2 fr s) : OkT r N2 Rt := by
  cases r with
  | nx fr s => exact OkT_def.mpr (k fr s (OkT_def.mp h))
  | rt v s => exact OkT_def.mpr (OkT_def.mp h)
  | ex x fr s => exact (OkT_def.mp h).elim
  | bad => exact (OkT_def.mp h).elim
theorem okt_forN {body : Fr → S → RS} {t : Tg} {q : Src} {xs : List Val} (Inv : Nat → Fr → S → Prop) (hs : ∀ i fr s, Inv i fr s → srcAt q i s = .ok xs[i]? s)
    (step : ∀ i v fr s, xs[i]? = some v → Inv i fr s → ∃ fr2, setTgS s t v fr = some fr2 ∧ OkT (body fr2 s) (Inv (i + 1)) Rt) (fin : ∀ fr s, Inv xs.length fr s → N fr s) :
    ∀ (m i : Nat) (fr : Fr) (s : S), i + m = xs.length → Inv i fr s → OkT (forN body t q m i fr s) N Rt
  | 0, i, fr, s, hm, hi => by
    have e : i = xs.length := by omega
    subst e
    unfold forN
    rw [okt_wE, ok_of (hs _ fr s hi)]
    simp only [List.getElem?_eq_none (Nat.le_refl _)]
    exact OkT_def.mpr (fin fr s hi)
  | m + 1, i, fr, s, hm, hi => by
    have hl : i < xs.length := by omega
    unfold forN
    rw [okt_wE, ok_of (hs _ fr s hi)]
    simp only [List.getElem?_eq_getElem hl]
    obtain ⟨fr2, e, h⟩ := step i xs[i] fr s (List.getElem?_eq_getElem hl) hi
    rw [e]
    simp only
    cases r : body fr2 s with
    | nx fr3 s3 =>
      rw [r] at h
      exact okt_forN Inv hs step fin m (i + 1) fr3 s3 (by omega) (OkT_def.mp h)
    | rt v s3 => rw [r] at h; exact OkT_def.mpr (OkT_def.mp h)
    | ex x fr3 s3 => rw [r] at h; exact (OkT_def.mp h).elim
    | bad => rw [r] at h; exact (OkT_def.mp h).elim
theorem okt_loop {t : Tg} {k : Ik} {src : Es} {b : Ts} : OkT (exT g (.loop t k src b) fr s) N Rt ↔ Ok (evs g fr src) s fun vs s1 => Ok (srcOf k vs) s1 fun q s2 => tgOk t q = true ∧ OkT (forN (exTs g b) t q (srcLen q s2) 0 fr s2) N Rt := by
  simp only [exT, okt_wE, ok_bnd]
  refine ok_iff fun vs s1 => ok_iff fun q s2 => ?_
  cases tgOk t q
  · exact ⟨fun h => (OkT_def.mp h).elim, fun h => by cases h.1⟩
  · exact ⟨fun h => ⟨rfl, h⟩, fun h => h.2⟩
theorem ok_noEx {m : M α} {P : α → S → Prop} : Ok (noEx m) s P ↔ Ok m s P := by
  simp only [Ok_def, noEx]
  cases m s <;> exact Iff.rfl
theorem ok_compN {step : Val → M (Option Val)} {q : Src} {xs : List Val} {P : List Val → S → Prop} (Inv : Nat → List Val → S → Prop) (hs : ∀ i acc s, Inv i acc s → srcAt q i s = .ok xs[i]? s)
    (hstep : ∀ i v acc s, xs[i]? = some v → Inv i acc s → Ok (step v) s fun y s2 => match y with
      | some z => acc.length < lim ∧ Inv (i + 1) (acc ++ [z]) s2
      | none => Inv (i + 1) acc s2) (fin : ∀ acc s, Inv xs.length acc s → P acc s) :
    ∀ (m i : Nat) (acc : List Val) (s : S), i + m = xs.length → Inv i acc s → Ok (compN step q m i acc) s P
  | 0, i, acc, s, hm, hi => by
    have e : i = xs.length := by omega
    subst e
    unfold compN
    rw [ok_bnd, ok_of (hs _ acc s hi)]
    simp only [List.getElem?_eq_none (Nat.le_refl _)]
    exact Ok_def.mpr (fin acc s hi)
  | m + 1, i, acc, s, hm, hi => by
    have hl : i < xs.length := by omega
    unfold compN
    rw [ok_bnd, ok_of (hs _ acc s hi)]
    simp only [List.getElem?_eq_getElem hl]
    rw [ok_bnd]
    have h := hstep i xs[i] acc s (List.getElem?_eq_getElem hl) hi
    rw [Ok_def] at h ⊢
    cases r : step xs[i] s with
    | ok y s2 =>
      rw [r] at h
      cases y with
      | some z => exact ok_chk.mpr ⟨decide_eq_true h.1, ok_compN Inv hs hstep fin m (i + 1) _ s2 (by omega) h.2⟩
      | none => exact ok_compN Inv hs hstep fin m (i + 1) _ s2 (by omega) h
    | ex x s2 => rw [r] at h; exact h.elim
    | bad => rw [r] at h; exact h.elim
@[scoped simp] theorem ok_iteE {c a b : E} : Ok (ev g fr (.ite c a b)) s QV ↔ Ok (ev g fr c) s fun x s1 => Ok (truth x) s1 fun k s2 => if k = true then Ok (ev g fr a) s2 QV else Ok (ev g fr b) s2 QV := by
  simp only [ev, ok_bnd]
  exact ok_iff fun x s1 => ok_iff fun k s2 => by cases k <;> simp
@[scoped simp] theorem ok_lst {es : Es} : Ok (ev g fr (.lst es)) s QV ↔ Ok (evs g fr es) s fun vs s1 => decide (vs.length ≤ lim) = true ∧ Ok (alloc (.lst vs)) s1 QV := by simp only [ev, ok_bnd, ok_chk]
@[scoped simp] theorem ok_tup {es : Es} : Ok (ev g fr (.tup es)) s QV ↔ Ok (evs g fr es) s fun vs s1 => decide (vs.length ≤ lim) = true ∧ QV (.tup vs) s1 := by simp only [ev, ok_bnd, ok_chk, ok_ret]
@[scoped simp] theorem ok_powI {i j : Int} : Ok (opv .pow (.int i) (.int j)) s QV ↔ (decide (0 ≤ j) && decide (j ≤ 1000000) && decide (i.natAbs < 2 ^ 64)) = true ∧ QV (.int (i ^ j.toNat)) s := ok_chkR
@[scoped simp] theorem ok_absI {i : Int} : Ok (bfv g .abs [.int i]) s QV ↔ QV (.int (if i < 0 then -i else i)) s := by
  unfold bfv
  exact Ok_def
@[scoped simp] theorem ok_maxI {i j : Int} : Ok (bfv g .max [.int i, .int j]) s QV ↔ QV (.int (if j > i then j else i)) s := Ok_def
@[scoped simp] theorem ok_minI {i j : Int} : Ok (bfv g .min [.int i, .int j]) s QV ↔ QV (.int (if j < i then j else i)) s := Ok_def
@[scoped simp] theorem ok_lenL {xs : List Val} : Ok (bfv g .len [.lst xs]) s QV ↔ QV (.int xs.length) s := Ok_def
theorem ok_idxL {xs : List Val} {i : Int} {v : Val} (h : atI xs i = some v) : Ok (idxv (.lst xs) (.int i)) s QV ↔ QV v s := by
  show Ok (opt (atI xs i)) s QV ↔ _
  rw [h]
  exact ok_some
@[scoped simp] theorem ok_and {a b : E} : Ok (ev g fr (.and a b)) s QV ↔ Ok (ev g fr a) s fun x s1 => Ok (truth x) s1 fun k s2 => if k = true then Ok (ev g fr b) s2 QV else QV (.bl false) s2 := by
  simp only [ev, ok_bnd]
  exact ok_iff fun x s1 => ok_iff fun k s2 => by cases k <;> simp
@[scoped simp] theorem ok_or {a b : E} : Ok (ev g fr (.or a b)) s QV ↔ Ok (ev g fr a) s fun x s1 => Ok (truth x) s1 fun k s2 => if k = true then QV (.bl true) s2 else Ok (ev g fr b) s2 QV := by
  simp only [ev, ok_bnd]
  exact ok_iff fun x s1 => ok_iff fun k s2 => by cases k <;> simp
@[scoped simp] theorem ok_bm {b : Bm} {a : E} {es : Es} : Ok (ev g fr (.bm b a es)) s QV ↔ Ok (ev g fr a) s fun x s1 => Ok (bmChk b x) s1 fun _ s2 => Ok (evs g fr es) s2 fun vs s3 => Ok (bmv b x vs) s3 QV := by simp only [ev, ok_bnd]
end
end PI.MX
end

section
set_option Elab.async false
set_option linter.all false
set_option maxRecDepth 100000
/-! PyX0: more rules for running the interpreter, all as equivalences. -/
namespace PI.MX
open PySem (Str)
section
variable {α β : Type} {m : M α} {f : α → M β} {s : S} {Q : β → S → Prop} {g : G} {fr : Fr} {QV : Val → S → Prop} {N : Fr → S → Prop} {Rt : Val → S → Prop}
@[scoped simp] theorem ok_bad0 {P : α → S → Prop} : ¬Ok (bad : M α) s P := fun h => (Ok_def.mp h).elim
theorem ok_congr {m m2 : M α} {P : α → S → Prop} (h : m s = m2 s) : Ok m s P ↔ Ok m2 s P := by
  simp only [Ok_def]
  rw [h]
@[scoped simp] theorem ok_look' {i : Nat} {P : Ob → S → Prop} : Ok (look i) s P ↔ ∃ o, s.st[i]? = some o ∧ P o s := by
  simp only [Ok_def, look]
  cases s.st[i]? <;> simp
@[scoped simp] theorem ok_opt {o : Option α} {P : α → S → Prop} : Ok (opt o) s P ↔ ∃ a, o = some a ∧ P a s := by
  cases o
  · simp [opt]
  · simp
@[scoped simp] theorem ok_alloc {o : Ob} {P : Val → S → Prop} : Ok (alloc o) s P ↔ P (.ref s.st.length) ⟨s.st ++ [o], s.w⟩ := Ok_def
@[scoped simp] theorem ok_bad {P : α → S → Prop} : Ok (bad : M α) s P ↔ False := Ok_def
@[scoped simp] theorem ok_noEx' {m : M α} {P : α → S → Prop} : Ok (noEx m) s P ↔ Ok m s P := ok_noEx
@[scoped simp] theorem lstOf_lst {xs : List Val} : lstOf (.lst xs) = some xs := rfl
@[scoped simp] theorem lstOf_ins {c : Nat} {fs : List (Str × Val)} : lstOf (.ins c fs) = none := rfl
@[scoped simp] theorem ok_neg {a : E} : Ok (ev g fr (.neg a)) s QV ↔ Ok (ev g fr a) s fun x s1 => ∃ i, x = .int i ∧ QV (.int (-i)) s1 := by
  simp only [ev, ok_bnd]
  refine ok_iff fun x s1 => ?_
  cases x <;> simp
@[scoped simp] theorem ok_rev {a : E} : Ok (ev g fr (.rev a)) s QV ↔ Ok (ev g fr a) s fun x s1 => Ok (revv x) s1 QV := by simp only [ev, ok_bnd]
@[scoped simp] theorem ok_fstr {a : E} : Ok (ev g fr (.fstr a)) s QV ↔ Ok (ev g fr a) s fun x s1 => ∃ t, x = .str t ∧ QV (.str t) s1 := by
  simp only [ev, ok_bnd]
  refine ok_iff fun x s1 => ?_
  cases x <;> simp
@[scoped simp] theorem ok_chain {o o2 : Cp} {a b c : E} : Ok (ev g fr (.chain o o2 a b c)) s QV ↔ Ok (ev g fr a) s fun x s1 => Ok (ev g fr b) s1 fun y s2 => Ok (cmpv g o x y) s2 fun k s3 => if k = true then Ok (ev g fr c) s3 fun z s4 => Ok (cmpv g o2 y z) s4 fun k2 s5 => QV (.bl k2) s5 else QV (.bl false) s3 := by
  simp only [ev, ok_bnd]
  exact ok_iff fun x s1 => ok_iff fun y s2 => ok_iff fun k s3 => by cases k <;> simp
@[scoped simp] theorem ok_attr {a : E} {f : Str} : Ok (ev g fr (.attr a f)) s QV ↔ Ok (ev g fr a) s fun x s1 => ∃ c fs v, insOf s1 x = some (c, fs) ∧ fs.lookup f = some v ∧ QV v s1 := by
  simp only [ev, ok_bnd]
  refine ok_iff fun x s1 => ?_
  simp only [Ok_def]
  rcases h1 : insOf s1 x with _ | ⟨c, fs⟩
  · simp [h1]
  · rcases h : fs.lookup f with _ | v
    · simp [h, h1]
    · simp [h, h1]
      constructor
      · exact fun q => ⟨c, fs, ⟨rfl, rfl⟩, v, h, q⟩
      · rintro ⟨c2, fs2, ⟨rfl, rfl⟩, v2, e, q⟩
        rw [h] at e
        cases e
        exact q
@[scoped simp] theorem ok_meth {a : E} {mn : Str} {es : Es} : Ok (ev g fr (.meth a mn es)) s QV ↔ Ok (ev g fr a) s fun x s1 => ∃ c fs k, insOf s1 x = some (c, fs) ∧ (g.pg.cs c).bind (·.ms.lookup mn) = some k ∧ Ok (evs g fr es) s1 fun vs s2 => Ok (g.call k (x :: vs)) s2 QV := by
  simp only [ev, ok_bnd]
  refine ok_iff fun x s1 => ?_
  rcases h1 : insOf s1 x with _ | ⟨c, fs⟩
  · simp [Ok_def, h1]
  · rcases h : (g.pg.cs c).bind (·.ms.lookup mn) with _ | k
    · simp [Ok_def, h, h1]
    · refine (ok_congr (m2 := bnd (evs g fr es) fun vs => g.call k (x :: vs)) (by simp only [h1, h])).trans ?_
      rw [ok_bnd]
      constructor
      · exact fun q => ⟨c, fs, k, rfl, h, q⟩
      · rintro ⟨c2, fs2, k2, e1, e2, q⟩
        cases e1
        rw [h] at e2
        cases e2
        exact q
@[scoped simp] theorem ok_make {c : Nat} {es : Es} : Ok (ev g fr (.make c es)) s QV ↔ Ok (evs g fr es) s fun vs s1 => ∃ k, (g.pg.cs c).bind (·.init) = some k ∧ Ok (g.call k (.ref s1.st.length :: vs)) ⟨s1.st ++ [.ins c []], s1.w⟩ fun v s2 => v = .non ∧ QV (.ref s1.st.length) s2 := by
  simp only [ev, ok_bnd]
  refine ok_iff fun vs s1 => ?_
  cases h : (g.pg.cs c).bind (·.init) with
  | none => simp
  | some k =>
    simp
    refine ok_iff fun v s2 => ?_
    cases v <;> simp
@[scoped simp] theorem ok_isi {a : E} {ts : List Ty} : Ok (ev g fr (.isi a ts)) s QV ↔ Ok (ev g fr a) s fun x s1 => ∃ bs, ts.mapM (tyIs g.pg s1 x) = some bs ∧ QV (.bl (bs.any id)) s1 := by
  simp only [ev, ok_bnd]
  refine ok_iff fun x s1 => ?_
  simp only [Ok_def]
  rcases h : ts.mapM (tyIs g.pg s1 x) with _ | bs <;> simp [h]
theorem ok_slc {a lo hi : E} : Ok (ev g fr (.slc a lo hi)) s QV ↔ Ok (ev g fr a) s fun x s1 => Ok (match lo with
    | .no => ret none
    | _ => intM (ev g fr lo)) s1 fun l s2 => Ok (match hi with
    | .no => ret none
    | _ => intM (ev g fr hi)) s2 fun h s3 => Ok (slcv x l h) s3 QV := by
  simp only [ev, ok_bnd] <;> exact Iff.rfl
@[scoped simp] theorem ok_intM {m : M Val} {P : Option Int → S → Prop} : Ok (intM m) s P ↔ Ok m s fun v s1 => ∃ i, v = .int i ∧ P (some i) s1 := by
  simp only [intM, ok_bnd]
  refine ok_iff fun x s1 => ?_
  cases x <;> simp
theorem ok_truthI {v : Val} {P : Bool → S → Prop} : Ok (truth v) s P ↔ ∃ b, v = .bl b ∧ P b s := by
  cases v <;> simp [truth]
@[scoped simp] theorem okt_asgT {is : List Nat} {e : E} : OkT (exT g (.asg (.tup is) e) fr s) N Rt ↔ Ok (ev g fr e) s fun v s1 => ∃ xs fr', v = .tup xs ∧ putAll is xs fr = some fr' ∧ N fr' s1 := by
  simp only [exT, okt_wE, setTg]
  refine ok_iff fun v s1 => ?_
  cases v <;> simp [OkT_def]
  rename_i xs
  cases putAll is xs fr <;> simp
@[scoped simp] theorem okt_aug {i : Nat} {o : Op} {e : E} : OkT (exT g (.aug i o e) fr s) N Rt ↔ Ok (ev g fr (.var i)) s fun x s1 => Ok (ev g fr e) s1 fun y s2 => Ok (augv o x y) s2 fun z s3 => N (fr.set i (some z)) s3 := by simp only [exT, okt_wE, ok_bnd, okt_nx]
@[scoped simp] theorem okt_fld {a e : E} {f : Str} : OkT (exT g (.fld a f e) fr s) N Rt ↔ Ok (ev g fr e) s fun v s1 => Ok (ev g fr a) s1 fun x s2 => Ok (setFld g x f v) s2 fun _ s3 => N fr s3 := by simp only [exT, okt_wE, ok_bnd, okt_nx]
@[scoped simp] theorem okt_pass : OkT (exT g .pass fr s) N Rt ↔ N fr s := by simp only [exT, okt_nx]
@[scoped simp] theorem ok_setFld {i : Nat} {f : Str} {v : Val} {P : Unit → S → Prop} : Ok (setFld g (.ref i) f v) s P ↔ ∃ c fs, s.st[i]? = some (.ins c fs) ∧ (decide (fs.length < 1000) && ((g.pg.cs c).any fun k => k.flds.contains f)) = true ∧ P () ⟨s.st.set i (.ins c (putF f v fs)), if obRef (.ins c (putF f v fs)) then min s.w i else s.w⟩ := by
  unfold setFld
  simp only [ok_bnd, ok_look']
  constructor
  · rintro ⟨o, h, k⟩
    cases o with
    | lst xs => exact (Ok_def.mp k).elim
    | ins c fs => rw [ok_chk, ok_put] at k; exact ⟨c, fs, h, k⟩
  · rintro ⟨c, fs, h, k⟩
    exact ⟨_, h, by rw [ok_chk, ok_put]; exact k⟩
/-! the store -/
theorem st0 {α : Type} {a b : List α} : (a ++ b)[a.length]? = b[0]? := by
  rw [List.getElem?_append_right (Nat.le_refl _), Nat.sub_self]
theorem stk {α : Type} {a b : List α} {k : Nat} : (a ++ b)[a.length + k]? = b[k]? := by
  rw [List.getElem?_append_right (Nat.le_add_right _ _)]
  simp
theorem sto {α : Type} {a b : List α} {i : Nat} {o : α} (h : a[i]? = some o) : (a ++ b)[i]? = some o := by
  rw [List.getElem?_append_left (List.getElem?_eq_some_iff.mp h).1]
  exact h
theorem ss0 {α : Type} {a b : List α} {o : α} : (a ++ b).set a.length o = a ++ b.set 0 o := by
  rw [List.set_append_right _ _ (Nat.le_refl _)]
  simp
theorem ssk {α : Type} {a b : List α} {k : Nat} {o : α} : (a ++ b).set (a.length + k) o = a ++ b.set k o := by
  rw [List.set_append_right _ _ (Nat.le_add_right _ _)]
  simp
theorem sso {α : Type} {a b : List α} {i : Nat} {o p : α} (h : a[i]? = some p) : (a ++ b).set i o = a.set i o ++ b := List.set_append_left _ _ (List.getElem?_eq_some_iff.mp h).1
@[scoped simp] theorem insOf_ref {i : Nat} {p : Nat × List (Str × Val)} : insOf s (.ref i) = some p ↔ s.st[i]? = some (.ins p.1 p.2) := by
  unfold insOf
  rcases h : s.st[i]? with _ | o
  · simp [h]
  · obtain ⟨p1, p2⟩ := p
    cases o <;> simp [h]
/-! comprehensions whose turns leave nothing but new objects -/
theorem ok_comp {elt : E} {t : Tg} {k : Ik} {src : Es} {c : E} : Ok (ev g fr (.comp elt t k src c)) s QV ↔ Ok (evs g fr src) s fun vs s1 => Ok (srcOf k vs) s1 fun q s2 => tgOk t q = true ∧ Ok (compN (fun v => match setTg t v (wipeF fr (tgIx t)) with
      | none => bad
      | some fr' => bnd (match c with
        | .no => ret true
        | _ => bnd (ev g fr' c) truth) fun b => (match b with
          | true => bnd (ev g fr' elt) fun y => ret (some y)
          | false => ret none)) q (srcLen q s2) 0 []) s2 fun xs s3 => QV (.ref s3.st.length) ⟨s3.st ++ [.lst xs], s3.w⟩ := by
  simp only [ev, ok_bnd]
  refine ok_iff fun vs s1 => ok_iff fun q s2 => ?_
  refine Iff.trans (ok_congr (m2 := noEx (chk _ (bnd (compN _ q (srcLen q s2) 0 []) _))) rfl) ?_
  rw [ok_noEx, ok_chk, ok_bnd]
  refine and_congr_right fun _ => ?_
  refine Iff.trans ?_ (ok_iff fun xs s3 => ok_alloc)
  exact Iff.rfl
/-- the turn of a comprehension without a condition -/
theorem turn_no {elt : E} {t : Tg} {v : Val} {fr' : Fr} {P : Option Val → S → Prop} (h : setTg t v (wipeF fr (tgIx t)) = some fr') : Ok (match setTg t v (wipeF fr (tgIx t)) with
      | none => bad
      | some fr' => bnd (match E.no with
        | .no => ret true
        | _ => bnd (ev g fr' E.no) truth) fun b => (match b with
          | true => bnd (ev g fr' elt) fun y => ret (some y)
          | false => ret none)) s P ↔ Ok (ev g fr' elt) s fun y s2 => P (some y) s2 := by
  rw [h]
  simp
end
end PI.MX
namespace PI.MX
section
variable {g : G} {fr : Fr}
theorem ok_mono {α : Type} {m : M α} {s : S} {P P2 : α → S → Prop} (h : Ok m s P) (k : ∀ a s2, P a s2 → P2 a s2) : Ok m s P2 := by
  rw [Ok_def] at h ⊢
  cases e : m s with
  | ok a s2 => rw [e] at h; exact k a s2 h
  | ex _ _ => rw [e] at h; exact h
  | bad => rw [e] at h; exact h
theorem filterMap_take {α β : Type} (F : α → Option β) (xs : List α) (i : Nat) (v : α) (hv : xs[i]? = some v) : (xs.take (i + 1)).filterMap F = (xs.take i).filterMap F ++ (match F v with | some z => [z] | none => []) := by
  rw [List.take_add_one, hv, List.filterMap_append]
  cases h : F v <;> simp [h]
theorem filterMap_lim {α β : Type} (F : α → Option β) (xs : List α) (i : Nat) (hi : i < xs.length) (hl : xs.length ≤ lim) : ((xs.take i).filterMap F).length < lim := by
  have := List.length_filterMap_le F (xs.take i)
  rw [List.length_take] at this
  omega
/-- turns that leave the store as it is -/
theorem ok_compE {step : Val → M (Option Val)} {q : Src} {xs : List Val} {s : S} {P : List Val → S → Prop} (F : Val → Option Val) (hsrc : ∀ i, srcAt q i s = .ok xs[i]? s)
    (hstep : ∀ v ∈ xs, Ok (step v) s fun y s2 => y = F v ∧ s2 = s) (hl : xs.length ≤ lim) (fin : P (xs.filterMap F) s) : Ok (compN step q xs.length 0 []) s P := by
  refine ok_compN (xs := xs) (fun i acc s2 => s2 = s ∧ acc = (xs.take i).filterMap F) (fun i acc s2 h => by rw [h.1]; exact hsrc i) ?_ ?_ xs.length 0 [] s (by omega) ⟨rfl, rfl⟩
  · rintro i v acc s2 hv ⟨rfl, rfl⟩
    have hi := (List.getElem?_eq_some_iff.mp hv).1
    refine ok_mono (hstep v (List.mem_of_getElem? hv)) ?_
    rintro y s3 ⟨rfl, rfl⟩
    have e := filterMap_take F xs i v hv
    cases hF : F v with
    | none => rw [hF] at e; exact ⟨rfl, by rw [e]; simp⟩
    | some z => rw [hF] at e; exact ⟨filterMap_lim F xs i hi hl, rfl, by rw [e]⟩
  · rintro acc s2 ⟨rfl, rfl⟩
    rw [List.take_of_length_le (Nat.le_refl _)]
    exact fin
/-- turns that leave new objects behind -/
theorem ok_compG {step : Val → M (Option Val)} {q : Src} {xs : List Val} {st : List Ob} {w : Nat} {P : List Val → S → Prop} (F : Val → Option Val) (hsrc : ∀ i tl, srcAt q i ⟨st ++ tl, w⟩ = .ok xs[i]? ⟨st ++ tl, w⟩)
    (hstep : ∀ v ∈ xs, ∀ tl, Ok (step v) ⟨st ++ tl, w⟩ fun y s2 => y = F v ∧ ∃ tl2, s2 = ⟨st ++ tl2, w⟩) (hl : xs.length ≤ lim) (fin : ∀ tl, P (xs.filterMap F) ⟨st ++ tl, w⟩) : Ok (compN step q xs.length 0 []) ⟨st, w⟩ P := by
  refine ok_compN (xs := xs) (fun i acc s2 => (∃ tl, s2 = ⟨st ++ tl, w⟩) ∧ acc = (xs.take i).filterMap F) (fun i acc s2 h => by obtain ⟨⟨tl, rfl⟩, _⟩ := h; exact hsrc i tl) ?_ ?_ xs.length 0 [] ⟨st, w⟩ (by omega) ⟨⟨[], by rw [List.append_nil]⟩, rfl⟩
  · rintro i v acc s2 hv ⟨⟨tl, rfl⟩, rfl⟩
    have hi := (List.getElem?_eq_some_iff.mp hv).1
    refine ok_mono (hstep v (List.mem_of_getElem? hv) tl) ?_
    rintro y s3 ⟨rfl, tl2, rfl⟩
    have e := filterMap_take F xs i v hv
    cases hF : F v with
    | none => rw [hF] at e; exact ⟨⟨tl2, rfl⟩, by rw [e]; simp⟩
    | some z => rw [hF] at e; exact ⟨filterMap_lim F xs i hi hl, ⟨tl2, rfl⟩, by rw [e]⟩
  · rintro acc s2 ⟨⟨tl, rfl⟩, rfl⟩
    rw [List.take_of_length_le (Nat.le_refl _)]
    exact fin tl
/-! what is walked -/
theorem src_items {xs : List Val} {i : Nat} {s : S} : srcAt (.items xs) i s = .ok xs[i]? s := rfl
theorem src_sgn {x : Tx} {i : Nat} {s : S} : srcAt (.sgn x) i s = .ok (x.map fun c => Val.str [c])[i]? s := by
  show R.ok _ s = _
  rw [List.getElem?_map]
theorem src_live {r i : Nat} {xs : List Val} {s : S} (h : s.st[r]? = some (.lst xs)) : srcAt (.live r) i s = .ok xs[i]? s := by
  show bnd (look r) _ s = _
  unfold bnd look
  rw [h]
  rfl
@[scoped simp] theorem ok_srcT {xs : List Val} {s : S} {P : Src → S → Prop} : Ok (srcOf .seq [.tup xs]) s P ↔ P (.items xs) s := Ok_def
@[scoped simp] theorem ok_srcL {xs : List Val} {s : S} {P : Src → S → Prop} : Ok (srcOf .seq [.lst xs]) s P ↔ P (.items xs) s := Ok_def
@[scoped simp] theorem ok_srcS {x : Tx} {s : S} {P : Src → S → Prop} : Ok (srcOf .seq [.str x]) s P ↔ P (.sgn x) s := Ok_def
theorem ok_srcV {r : Nat} {xs : List Val} {s : S} {P : Src → S → Prop} (h : s.st[r]? = some (.lst xs)) : Ok (srcOf .seq [.ref r]) s P ↔ P (.live r) s := by
  show Ok (bnd (look r) _) s P ↔ _
  simp [h]
theorem srcLen_live {r : Nat} {xs : List Val} {s : S} (h : s.st[r]? = some (.lst xs)) : srcLen (.live r) s = xs.length := by
  simp [srcLen, h]
end
end PI.MX
end

section
set_option Elab.async false
set_option linter.all false
set_option maxRecDepth 100000
/-! PyW1: what the drawing functions of the site laws do. -/
namespace PI.MX
/-- the feed's next digit, and the feed behind it -/
def tkV (a b many : Int) : Int := if 0 < a then a.fmod many else (((b * 6364136223846793005 + 1442695040888963407).fmod 2305843009213693951).fdiv 65536).fmod many
def tkA (a many : Int) : Int := if 0 < a then a.fdiv many else a
def tkB (a b : Int) : Int := if 0 < a then b else (b * 6364136223846793005 + 1442695040888963407).fmod 2305843009213693951
def feedO (a b : Int) : Ob := .lst [.int a, .int b]
theorem at0 {a b : Val} : atI [a, b] 0 = some a := rfl
theorem at1 {a b : Val} : atI [a, b] 1 = some b := rfl
theorem take_ok {d r w : Nat} {a b many : Int} {st : List Ob} {P : Val → S → Prop} (h : st[r]? = some (feedO a b)) (h1 : 0 < many) (h2 : many < 1073741824)
    (q : P (.int (tkV a b many)) ⟨st.set r (feedO (tkA a many) (tkB a b)), w⟩) : Ok (callN pgA wfA (d + 1) F__law_take [.ref r, .int many]) ⟨st, w⟩ P := by
  have hr : r < st.length := (List.getElem?_eq_some_iff.mp h).1
  have hm : (many != 0) = true := by simp; omega
  have hn : many.natAbs < 1073741824 := by omega
  refine ok_callN (df := d__law_take) rfl rfl ?_
  unfold feedO at h
  have tk : ∀ o : Ob, (st.set r o).take st.length = st.set r o := fun o => List.take_of_length_le (by rw [List.length_set]; exact Nat.le_refl _)
  have gt : ∀ o : Ob, (st.set r o)[r]? = some o := fun o => by rw [List.getElem?_set_self hr]
  by_cases ha : 0 < a
  · simp [d__law_take, ok_var]
    refine (ok_idxR h at0).mpr ?_
    simp only [ok_gtI, ha, decide_true, if_true]
    refine (ok_idxR h at0).mpr ?_
    simp only [ok_intI, ok_modI]
    refine ⟨hm, (ok_idxR h at0).mpr ?_⟩
    rw [ok_fdivI]
    refine ⟨by simp [hn]; omega, (ok_setSub h rfl).mpr ((ok_leave (Nat.le_refl _) rfl).mpr ?_)⟩
    simp only [tk]
    simpa [tkV, tkA, tkB, ha, feedO] using q
  · simp [d__law_take, ok_var]
    refine (ok_idxR h at0).mpr ?_
    simp only [ok_gtI, ha, decide_false, if_false, Bool.false_eq_true]
    refine (ok_idxR h at1).mpr ?_
    simp only [ok_mulI, ok_addI, ok_intI, ok_modI]
    refine ⟨by rw [show smallI 6364136223846793005 = true from by decide, Bool.or_true], by decide, (ok_setSub (j := 1) h rfl).mpr ?_⟩
    refine (ok_idxR (gt _) rfl).mpr ?_
    simp only [ok_fdivI, ok_intI, ok_modI]
    refine ⟨by decide, hm, (ok_leave (Nat.le_refl _) rfl).mpr ?_⟩
    simp only [tk]
    simpa [tkV, tkA, tkB, ha, feedO] using q
theorem tkV_range {a b many : Int} (h : 0 < many) : 0 ≤ tkV a b many ∧ tkV a b many < many := by
  unfold tkV
  split
  · exact ⟨Int.fmod_nonneg_of_pos _ h, Int.fmod_lt_of_pos _ h⟩
  · exact ⟨Int.fmod_nonneg_of_pos _ h, Int.fmod_lt_of_pos _ h⟩
/-- the place that is drawn of n -/
def tkN (a b : Int) (n : Nat) : Nat := (tkV a b n).toNat
theorem tkN_lt {a b : Int} {n : Nat} (h : 0 < n) : tkN a b n < n := by
  have := tkV_range (a := a) (b := b) (many := n) (by omega)
  unfold tkN
  omega
theorem atI_nat {xs : List Val} {k : Nat} {v : Val} (h : xs[k]? = some v) : atI xs (k : Int) = some v := by
  have hk := (List.getElem?_eq_some_iff.mp h).1
  unfold atI ixN
  rw [if_pos (by omega), if_pos (by omega)]
  simpa using h
theorem pick_ok {d r r2 w : Nat} {a b : Int} {xs : List Val} {v : Val} {st : List Ob} {P : Val → S → Prop} (h : st[r]? = some (feedO a b)) (hx : st[r2]? = some (.lst xs)) (hne : r2 ≠ r) (h1 : 0 < xs.length) (h2 : xs.length < 1000000)
    (hv : xs[tkN a b xs.length]? = some v) (hl : hasRef v = false ∨ ∃ q, v = .ref q ∧ q < st.length)
    (q : P v ⟨st.set r (feedO (tkA a xs.length) (tkB a b)), w⟩) : Ok (callN pgA wfA (d + 2) F__law_pick [.ref r, .ref r2]) ⟨st, w⟩ P := by
  have hr : r < st.length := (List.getElem?_eq_some_iff.mp h).1
  refine ok_callN (df := d__law_pick) rfl rfl ?_
  have tk : ∀ o : Ob, (st.set r o).take st.length = st.set r o := fun o => List.take_of_length_le (by rw [List.length_set]; exact Nat.le_refl _)
  simp [d__law_pick, ok_var]
  refine (ok_lenR hx).mpr ?_
  refine take_ok h (by omega) (by omega) ?_
  have e : tkV a b xs.length = (tkN a b xs.length : Int) := by
    have := tkV_range (a := a) (b := b) (many := xs.length) (by omega)
    unfold tkN
    omega
  rw [e]
  refine (ok_idxR (xs := xs) (v := v) (by rw [List.getElem?_set_ne (Ne.symm hne)]; exact hx) (atI_nat hv)).mpr ?_
  rcases hl with hl | ⟨z, rfl, hz⟩
  · refine (ok_leave (Nat.le_refl _) hl).mpr ?_
    rw [tk]
    exact q
  · refine (ok_leaveO (Nat.le_refl _) hz).mpr ?_
    rw [tk]
    exact q
theorem feed_ok {d w k : Nat} {ns : List Int} {st : List Ob} {P : Val → S → Prop} (q : ∀ a b, P (.ref st.length) ⟨st ++ [feedO a b], w⟩) : Ok (callN pgA wfA (d + 1) F__law_feed [.lst (ns.map .int), .int k]) ⟨st, w⟩ P := by
  refine ok_callN (df := d__law_feed) rfl rfl ?_
  have key : ∀ c : Int, ∀ a b : Int, Ok (leave st.length w (.ref st.length)) ⟨st ++ [feedO a b], st.length⟩ P := fun c a b => by
    refine (ok_leaveR (o := feedO a b) (Nat.le_refl _) (Nat.le_refl _) (by simp) rfl).mpr ?_
    rw [List.take_left]
    exact q a b
  simp [d__law_feed, ok_var]
  by_cases h : k < ns.length
  · simp only [h, decide_true, if_true]
    refine (ok_idxL (v := .int ns[k]) (atI_nat (by simp [h]))).mpr ?_
    simp
    exact ⟨.inr (by decide), .inl (by decide), by decide, key 0 _ _⟩
  · simp only [h, decide_false, if_false, Bool.false_eq_true]
    exact ⟨.inl (by decide), .inr (by decide), .inl (by decide), by decide, key 0 _ _⟩
end PI.MX
end

section
set_option Elab.async false
set_option linter.all false
set_option maxRecDepth 100000
/-! PyX1: comparing, texts, lists. -/
namespace PI.MX
open PySem (Str)
section
variable {g : G} {fr : Fr} {s : S} {QV : Val → S → Prop} {PB : Bool → S → Prop}
@[scoped simp] theorem ok_leI {i j : Int} : Ok (cmpv g .le (.int i) (.int j)) s PB ↔ PB (decide (i ≤ j)) s := Ok_def
@[scoped simp] theorem ok_geI {i j : Int} : Ok (cmpv g .ge (.int i) (.int j)) s PB ↔ PB (decide (j ≤ i)) s := Ok_def
@[scoped simp] theorem ok_ltS {x y : Tx} : Ok (cmpv g .lt (.str x) (.str y)) s PB ↔ PB (decide (x < y)) s := Ok_def
@[scoped simp] theorem ok_leS {x y : Tx} : Ok (cmpv g .le (.str x) (.str y)) s PB ↔ PB (!decide (y < x)) s := Ok_def
@[scoped simp] theorem ok_memC {c : Nat} {y : Tx} : Ok (cmpv g .mem (.str [c]) (.str y)) s PB ↔ PB (decide (c ∈ y)) s := Ok_def
@[scoped simp] theorem ok_nmemC {c : Nat} {y : Tx} : Ok (cmpv g .nmem (.str [c]) (.str y)) s PB ↔ PB (!decide (c ∈ y)) s := Ok_def
theorem ok_isN {a : Val} : Ok (cmpv g .isN a .non) s PB ↔ PB (match a with | .non => true | _ => false) s := Ok_def
theorem ok_notN {a : Val} : Ok (cmpv g .notN a .non) s PB ↔ PB (match a with | .non => false | _ => true) s := Ok_def
@[scoped simp] theorem ok_isN0 : Ok (cmpv g .isN .non .non) s PB ↔ PB true s := Ok_def
@[scoped simp] theorem ok_isN1 {i : Int} : Ok (cmpv g .isN (.int i) .non) s PB ↔ PB false s := Ok_def
@[scoped simp] theorem ok_isN2 {x : Tx} : Ok (cmpv g .isN (.str x) .non) s PB ↔ PB false s := Ok_def
@[scoped simp] theorem ok_isN3 {x : List Val} : Ok (cmpv g .isN (.tup x) .non) s PB ↔ PB false s := Ok_def
@[scoped simp] theorem ok_isN4 {x : Nat} : Ok (cmpv g .isN (.ref x) .non) s PB ↔ PB false s := Ok_def
@[scoped simp] theorem ok_ne {a b : Val} : Ok (cmpv g .ne a b) s PB ↔ Ok (cmpv g .eq a b) s fun k s2 => PB (!k) s2 := by
  show Ok (bnd (eqv g a b) fun k => ret (!k)) s PB ↔ Ok (eqv g a b) s _
  rw [ok_bnd]
  exact ok_iff fun _ _ => ok_ret
theorem ok_eq {a b x y : Val} (h1 : insOf s a = none) (h2 : deep s.st 60 a = some x) (h3 : deep s.st 60 b = some y) : Ok (cmpv g .eq a b) s PB ↔ PB (veq x y) s := by
  refine (ok_congr (m2 := bnd (deepM a) fun x => bnd (deepM b) fun y => ret (veq x y)) ?_).trans ?_
  · show eqv g a b s = _
    unfold eqv
    rw [h1]
  · have e : deepM a s = .ok x s := by unfold deepM; rw [h2]
    have e2 : deepM b s = .ok y s := by unfold deepM; rw [h3]
    rw [ok_bnd, ok_of e, ok_bnd, ok_of e2]
    exact ok_ret
@[scoped simp] theorem ok_eqS {x y : Tx} : Ok (cmpv g .eq (.str x) (.str y)) s PB ↔ PB (x == y) s := (ok_eq (x := .str x) (y := .str y) rfl rfl rfl).trans (by simp [veq])
@[scoped simp] theorem ok_eqI {x y : Int} : Ok (cmpv g .eq (.int x) (.int y)) s PB ↔ PB (x == y) s := (ok_eq (x := .int x) (y := .int y) rfl rfl rfl).trans (by simp [veq])
@[scoped simp] theorem ok_eqB {x y : Bool} : Ok (cmpv g .eq (.bl x) (.bl y)) s PB ↔ PB (x == y) s := (ok_eq (x := .bl x) (y := .bl y) rfl rfl rfl).trans (by simp [veq])
def svs (xs : List Tx) : List Val := xs.map .str
theorem mapM_some {α β : Type} {f : α → Option β} {h : α → β} : ∀ {xs : List α}, (∀ x ∈ xs, f x = some (h x)) → xs.mapM f = some (xs.map h)
  | [], _ => rfl
  | x :: r, k => by
    rw [List.mapM_cons, k x (List.mem_cons_self ..), mapM_some (xs := r) fun y hy => k y (List.mem_cons_of_mem _ hy)]
    rfl
theorem deep_strs {st : List Ob} {n : Nat} {xs : List Tx} : (svs xs).mapM (deep st n) = some (svs xs) := by
  unfold svs
  rw [mapM_some (h := id) (fun x hx => ?_), List.map_id]
  obtain ⟨t, _, rfl⟩ := List.mem_map.mp hx
  cases n <;> rfl
/-- a value without an address is its own deep value, if there is room -/
def dep : Val → Nat
  | .tup xs => 1 + deps xs
  | _ => 0
where deps : List Val → Nat
  | [] => 0
  | x :: r => max (dep x) (deps r)
def flat : Val → Bool
  | .tup xs => flats xs
  | .non => true | .bl _ => true | .int _ => true | .str _ => true
  | _ => false
where flats : List Val → Bool
  | [] => true
  | x :: r => flat x && flats r
mutual
theorem deep_flat {st : List Ob} : ∀ {v : Val} {n : Nat}, flat v = true → dep v ≤ n → deep st n v = some v
  | .non, n, _, _ => by cases n <;> rfl
  | .bl _, n, _, _ => by cases n <;> rfl
  | .int _, n, _, _ => by cases n <;> rfl
  | .str _, n, _, _ => by cases n <;> rfl
  | .tup xs, 0, _, h => by simp only [dep] at h; omega
  | .tup xs, n + 1, f, h => by
    simp only [dep] at h
    simp only [flat] at f
    have e := deeps_flat (st := st) (n := n) f (by omega)
    unfold deep
    rw [e]
  | .ref _, _, f, _ => by cases f
  | .lst _, _, f, _ => by cases f
  | .dct _, _, f, _ => by cases f
theorem deeps_flat {st : List Ob} : ∀ {xs : List Val} {n : Nat}, flat.flats xs = true → dep.deps xs ≤ n → xs.mapM (deep st n) = some xs
  | [], n, _, _ => rfl
  | x :: r, n, f, h => by
    simp only [flat.flats, Bool.and_eq_true] at f
    simp only [dep.deps] at h
    rw [List.mapM_cons, deep_flat f.1 (by omega), deeps_flat f.2 (by omega)]
    rfl
end
mutual
theorem noRef_flat : ∀ {v : Val}, flat v = true → hasRef v = false
  | .non, _ => rfl
  | .bl _, _ => rfl
  | .int _, _ => rfl
  | .str _, _ => rfl
  | .tup xs, f => by
    simp only [flat] at f
    simp only [hasRef]
    exact noRefs_flat f
  | .ref _, f => by cases f
  | .lst _, f => by cases f
  | .dct _, f => by cases f
theorem noRefs_flat : ∀ {xs : List Val}, flat.flats xs = true → hasRefs xs = false
  | [], _ => rfl
  | x :: r, f => by
    simp only [flat.flats, Bool.and_eq_true] at f
    simp only [hasRefs, noRef_flat f.1, noRefs_flat f.2, Bool.or_false]
end
/-- what == may look at, repr may show -/
theorem mapM_imp {α β : Type} {f h : α → Option β} : ∀ {xs : List α} {ys : List β}, (∀ x ∈ xs, ∀ y, f x = some y → h x = some y) → xs.mapM f = some ys → xs.mapM h = some ys
  | [], ys, _, e => e
  | x :: r, ys, k, e => by
    rw [List.mapM_cons] at e ⊢
    cases e1 : f x with
    | none => rw [e1] at e; cases e
    | some y =>
      rw [e1] at e
      cases e2 : r.mapM f with
      | none => rw [e2] at e; cases e
      | some q =>
        rw [e2] at e
        rw [k x (List.mem_cons_self ..) y e1, mapM_imp (fun z m => k z (List.mem_cons_of_mem _ m)) e2]
        exact e
theorem deepR_of {st : List Ob} : ∀ (n : Nat) (v d : Val), deep st n v = some d → deepR st n v = some d
  | n, .non, d, h => by cases n <;> exact h
  | n, .bl _, d, h => by cases n <;> exact h
  | n, .int _, d, h => by cases n <;> exact h
  | n, .str _, d, h => by cases n <;> exact h
  | n, .dct _, d, h => by cases n <;> (simp only [deep] at h; cases h)
  | n, .lst _, d, h => by cases n <;> (simp only [deep] at h; cases h)
  | 0, .tup _, d, h => by simp only [deep] at h; cases h
  | 0, .ref _, d, h => by simp only [deep] at h; cases h
  | n + 1, .tup xs, d, h => by
    simp only [deep] at h
    simp only [deepR]
    cases e : xs.mapM (deep st n) with
    | none => rw [e] at h; cases h
    | some ys =>
      rw [e] at h
      rw [mapM_imp (fun x _ y q => deepR_of n x y q) e]
      exact h
  | n + 1, .ref i, d, h => by
    simp only [deep] at h
    simp only [deepR]
    cases e : st[i]? with
    | none => rw [e] at h; cases h
    | some o =>
      rw [e] at h
      cases o with
      | ins c fs => cases h
      | lst xs =>
        cases e2 : xs.mapM (deep st n) with
        | none => simp only [e2] at h; cases h
        | some ys =>
          simp only [e2] at h
          simp only [mapM_imp (fun x _ y q => deepR_of n x y q) e2]
          exact h
theorem flats_map {α : Type} {f : α → Val} {xs : List α} (h : ∀ x ∈ xs, flat (f x) = true) : flat.flats (xs.map f) = true := by
  induction xs with
  | nil => rfl
  | cons x r ih =>
    simp only [List.map_cons, flat.flats, Bool.and_eq_true]
    exact ⟨h x (List.mem_cons_self ..), ih fun y hy => h y (List.mem_cons_of_mem _ hy)⟩
theorem deps_map {α : Type} {f : α → Val} {xs : List α} {n : Nat} (h : ∀ x ∈ xs, dep (f x) ≤ n) : dep.deps (xs.map f) ≤ n := by
  induction xs with
  | nil => exact Nat.zero_le _
  | cons x r ih =>
    simp only [List.map_cons, dep.deps]
    exact Nat.max_le.mpr ⟨h x (List.mem_cons_self ..), ih fun y hy => h y (List.mem_cons_of_mem _ hy)⟩
theorem noRef_strs {xs : List Tx} : hasRefs (svs xs) = false := noRefs_flat (flats_map fun x _ => rfl)
@[scoped simp] theorem obRef_strs {xs : List Tx} : obRef (.lst (svs xs)) = false := noRef_strs
@[scoped simp] theorem strsOf_strs {xs : List Tx} : strsOf (svs xs) = some xs := by
  unfold svs
  induction xs with
  | nil => rfl
  | cons x r ih => simp [strsOf, ih]
/-- a list object beside a value: == -/
theorem ok_eqL {st : List Ob} {w i j : Nat} {xs ys : List Tx} (h1 : st[i]? = some (.lst (svs xs))) (h2 : st[j]? = some (.lst (svs ys))) : Ok (cmpv g .eq (.ref i) (.ref j)) ⟨st, w⟩ PB ↔ PB (xs == ys) ⟨st, w⟩ := by
  have d1 : deep st 60 (.ref i) = some (.lst (svs xs)) := by unfold deep; rw [h1]; simp only [deep_strs]
  have d2 : deep st 60 (.ref j) = some (.lst (svs ys)) := by unfold deep; rw [h2]; simp only [deep_strs]
  rw [ok_eq (by simp [insOf, h1]) d1 d2]
  have e : veq (.lst (svs xs)) (.lst (svs ys)) = (xs == ys) := by
    simp only [veq, svs]
    clear h1 h2 d1 d2
    induction xs generalizing ys with
    | nil => cases ys <;> simp [veqs]
    | cons x r ih => cases ys with
      | nil => simp [veqs]
      | cons y q => simp only [List.map_cons, veqs, ih, veq]; rfl
  rw [e]
end
end PI.MX
end

section
set_option Elab.async false
set_option linter.all false
set_option maxRecDepth 100000
/-! PyX2: built-ins, methods, walks. -/
namespace PI.MX
open PySem (Str)
section
variable {g : G} {fr : Fr} {s : S} {Q : Val → S → Prop} {PB : Bool → S → Prop}
theorem ok_lstR {α : Type} {r : Nat} {f : List Val → M α} {P : α → S → Prop} : Ok (bnd (look r) fun o => bnd (opt (lstOf o)) f) s P ↔ ∃ xs, s.st[r]? = some (.lst xs) ∧ Ok (f xs) s P := by
  rw [ok_bnd, ok_look']
  constructor
  · rintro ⟨o, h, k⟩
    cases o with
    | lst xs => simp at k; exact ⟨xs, h, k⟩
    | ins c fs => simp at k
  · rintro ⟨xs, h, k⟩
    exact ⟨_, h, by simpa using k⟩
theorem ok_lstRet {α : Type} {r : Nat} {f : List Val → α} {P : α → S → Prop} : Ok (bnd (look r) fun o => bnd (opt (lstOf o)) fun xs => ret (f xs)) s P ↔ ∃ xs, s.st[r]? = some (.lst xs) ∧ P (f xs) s := by
  rw [ok_lstR]
  simp only [ok_ret]
theorem ok_lstAl {r : Nat} {f : List Val → Ob} {P : Val → S → Prop} : Ok (bnd (look r) fun o => bnd (opt (lstOf o)) fun xs => alloc (f xs)) s P ↔ ∃ xs, s.st[r]? = some (.lst xs) ∧ P (.ref s.st.length) ⟨s.st ++ [f xs], s.w⟩ := by
  rw [ok_lstR]
  simp only [ok_alloc]
@[scoped simp] theorem ok_lenS {x : Tx} : Ok (bfv g .len [.str x]) s Q ↔ decide (x.length ≤ lim) = true ∧ Q (.int x.length) s := ok_chkR
@[scoped simp] theorem ok_lenT {x : List Val} : Ok (bfv g .len [.tup x]) s Q ↔ Q (.int x.length) s := Ok_def
@[scoped simp] theorem ok_lenRef {r : Nat} : Ok (bfv g .len [.ref r]) s Q ↔ ∃ xs, s.st[r]? = some (.lst xs) ∧ Q (.int xs.length) s := ok_lstRet (f := fun xs => Val.int xs.length)
@[scoped simp] theorem ok_intB {b : Bool} : Ok (bfv g .int [.bl b]) s Q ↔ Q (.int (if b then 1 else 0)) s := Ok_def
@[scoped simp] theorem ok_intS {c : Nat} : Ok (bfv g .int [.str [c]]) s Q ↔ (decide (48 ≤ c) && decide (c ≤ 57)) = true ∧ Q (.int ((c : Int) - 48)) s := ok_chkR
@[scoped simp] theorem ok_strI {i : Int} : Ok (bfv g .str [.int i]) s Q ↔ (decide (i.natAbs.log2 < 1920) && decide ((numT i).length ≤ lim)) = true ∧ Q (.str (numT i)) s := ok_chkR
@[scoped simp] theorem ok_listT {x : List Val} : Ok (bfv g .list [.tup x]) s Q ↔ Q (.ref s.st.length) ⟨s.st ++ [.lst x], s.w⟩ := Ok_def
@[scoped simp] theorem ok_listS {x : Tx} : Ok (bfv g .list [.str x]) s Q ↔ Q (.ref s.st.length) ⟨s.st ++ [.lst (x.map fun c => .str [c])], s.w⟩ := Ok_def
@[scoped simp] theorem ok_listR {r : Nat} : Ok (bfv g .list [.ref r]) s Q ↔ ∃ xs, s.st[r]? = some (.lst xs) ∧ Q (.ref s.st.length) ⟨s.st ++ [.lst xs], s.w⟩ := ok_lstAl (f := Ob.lst)
@[scoped simp] theorem ok_tupT {x : List Val} : Ok (bfv g .tuple [.tup x]) s Q ↔ Q (.tup x) s := Ok_def
@[scoped simp] theorem ok_tupR {r : Nat} : Ok (bfv g .tuple [.ref r]) s Q ↔ ∃ xs, s.st[r]? = some (.lst xs) ∧ Q (.tup xs) s := ok_lstRet (f := Val.tup)
@[scoped simp] theorem ok_allR {r : Nat} : Ok (bfv g .all [.ref r]) s Q ↔ ∃ xs, s.st[r]? = some (.lst xs) ∧ ∃ bs, blsOf xs = some bs ∧ Q (.bl (bs.all id)) s := by
  refine (ok_lstR (f := fun xs => bnd (opt (blsOf xs)) fun bs => ret (Val.bl (bs.all id)))).trans ?_
  simp
@[scoped simp] theorem ok_anyR {r : Nat} : Ok (bfv g .any [.ref r]) s Q ↔ ∃ xs, s.st[r]? = some (.lst xs) ∧ ∃ bs, blsOf xs = some bs ∧ Q (.bl (bs.any id)) s := by
  refine (ok_lstR (f := fun xs => bnd (opt (blsOf xs)) fun bs => ret (Val.bl (bs.any id)))).trans ?_
  simp
@[scoped simp] theorem ok_sumR {r : Nat} : Ok (bfv g .sum [.ref r]) s Q ↔ ∃ xs, s.st[r]? = some (.lst xs) ∧ ∃ ns, intsOf xs = some ns ∧ Q (.int ns.sum) s := by
  refine (ok_lstR (f := fun xs => bnd (opt (intsOf xs)) fun ns => ret (Val.int ns.sum))).trans ?_
  simp
theorem ok_sortG {r : Nat} {xs : List Val} (h : s.st[r]? = some (.lst xs)) (hl : xs.length < 64) : Ok (bfv g .sorted [.ref r]) s Q ↔ Ok (match strsOf xs with
    | some ss => alloc (.lst ((sortT ss).map .str))
    | none => bnd (opt (prsOf xs)) fun ps => alloc (.lst ((sortP ps).map prV))) s Q := by
  refine (ok_lstR (f := fun xs => chk (decide (xs.length < 64)) (match strsOf xs with
    | some ss => alloc (.lst ((sortT ss).map .str))
    | none => bnd (opt (prsOf xs)) fun ps => alloc (.lst ((sortP ps).map prV))))).trans ?_
  constructor
  · rintro ⟨ys, e, k⟩
    rw [h] at e
    cases e
    exact (ok_chk.mp k).2
  · exact fun k => ⟨xs, h, ok_chk.mpr ⟨decide_eq_true hl, k⟩⟩
theorem ok_sortR {r : Nat} {ss : List Tx} (h : s.st[r]? = some (.lst (svs ss))) (hl : ss.length < 64) : Ok (bfv g .sorted [.ref r]) s Q ↔ Q (.ref s.st.length) ⟨s.st ++ [.lst (svs (sortT ss))], s.w⟩ := by
  rw [ok_sortG h (by simpa [svs] using hl), strsOf_strs]
  simp [svs]
theorem prs_strs {ps : List (Tx × Int)} (hn : ps ≠ []) : strsOf (ps.map prV) = none := by
  cases ps with
  | nil => exact absurd rfl hn
  | cons p r => rfl
theorem prs_prs : ∀ {ps : List (Tx × Int)}, prsOf (ps.map prV) = some ps
  | [] => rfl
  | p :: r => by
    simp only [List.map_cons, prV, prsOf]
    rw [show r.map prV = r.map (fun p => Val.tup [.str p.1, .int p.2]) from rfl] at *
    have := prs_prs (ps := r)
    rw [show r.map prV = r.map (fun p => Val.tup [.str p.1, .int p.2]) from rfl] at this
    simp only [this]
theorem ok_sortPR {r : Nat} {ps : List (Tx × Int)} (h : s.st[r]? = some (.lst (ps.map prV))) (hl : ps.length < 64) : Ok (bfv g .sorted [.ref r]) s Q ↔ Q (.ref s.st.length) ⟨s.st ++ [.lst ((sortP ps).map prV)], s.w⟩ := by
  rw [ok_sortG h (by simpa using hl)]
  cases ps with
  | nil => simp [strsOf, sortT, sortP]
  | cons p q => rw [prs_strs (by simp), prs_prs]; simp
@[scoped simp] theorem ok_ssetR {r : Nat} : Ok (bfv g .sset [.ref r]) s Q ↔ ∃ xs, s.st[r]? = some (.lst xs) ∧ decide (xs.length < 64) = true ∧ ∃ ss, strsOf xs = some ss ∧ Q (.ref s.st.length) ⟨s.st ++ [.lst (svs (sortT (dedT ss)))], s.w⟩ := by
  refine (ok_lstR (f := fun xs => chk (decide (xs.length < 64)) (bnd (opt (strsOf xs)) fun ss => alloc (.lst ((sortT (dedT ss)).map .str))))).trans ?_
  simp [svs]
theorem ok_zip4 {a b c d : List Val} (h1 : b.length = a.length) (h2 : c.length = a.length) (h3 : d.length = a.length) (h4 : 0 < a.length) (h5 : a.length < 1000) : Ok (bfv g .zip4 [.tup a, .tup b, .tup c, .tup d]) s Q ↔ Q (.ref s.st.length) ⟨s.st ++ [.lst (zip4 a b c d)], s.w⟩ := by
  show Ok (chk (decide (b.length = a.length) && decide (c.length = a.length) && decide (d.length = a.length) && decide (0 < a.length) && decide (a.length < 1000)) (alloc (.lst (zip4 a b c d)))) s Q ↔ _
  rw [ok_chk, decide_eq_true h1, decide_eq_true h2, decide_eq_true h3, decide_eq_true h4, decide_eq_true h5]
  simp
theorem ok_reprR {v d : Val} {t : Tx} (h : deepR s.st 60 v = some d) (h2 : reprV d = some t) (h3 : t.all (· < 1114112) = true) (h4 : t.length ≤ lim) : Ok (bfv g .repr [v]) s Q ↔ Q (.str t) s := by
  show Ok (bnd (deepRM v) fun d => bnd (opt (reprV d)) fun t => chk (t.all (· < 1114112) && decide (t.length ≤ lim)) (ret (.str t))) s Q ↔ _
  have e : deepRM v s = .ok d s := by unfold deepRM; rw [h]
  rw [ok_bnd, ok_of e, h2]
  simp only [ok_bnd, ok_some]
  rw [ok_chk, h3, decide_eq_true h4]
  simp
theorem ok_repr {v d : Val} {t : Tx} (h : deep s.st 60 v = some d) (h2 : reprV d = some t) (h3 : t.all (· < 1114112) = true) (h4 : t.length ≤ lim) : Ok (bfv g .repr [v]) s Q ↔ Q (.str t) s := ok_reprR (deepR_of 60 v d h) h2 h3 h4
/-! methods -/
@[scoped simp] theorem ok_bmChkR {b : Bm} {r : Nat} {P : Unit → S → Prop} : Ok (bmChk b (.ref r)) s P ↔ bmL b = true ∧ ∃ xs, s.st[r]? = some (.lst xs) ∧ P () s := by
  show Ok (chk (bmL b) (bnd (look r) fun o => bnd (opt (lstOf o)) fun _ => ret ())) s P ↔ _
  rw [ok_chk, ok_lstR]
  simp
@[scoped simp] theorem ok_bmChkS {b : Bm} {x : Tx} {P : Unit → S → Prop} : Ok (bmChk b (.str x)) s P ↔ (b == .join || b == .split) = true ∧ P () s := ok_chkR
@[scoped simp] theorem ok_bmChkT {b : Bm} {x : List Val} {P : Unit → S → Prop} : Ok (bmChk b (.tup x)) s P ↔ (b == .index) = true ∧ P () s := ok_chkR
@[scoped simp] theorem ok_append {r : Nat} {v : Val} : Ok (bmv .append (.ref r) [v]) s Q ↔ ∃ xs, s.st[r]? = some (.lst xs) ∧ decide (xs.length < lim) = true ∧ Q .non ⟨s.st.set r (.lst (xs ++ [v])), if obRef (.lst (xs ++ [v])) then min s.w r else s.w⟩ := by
  refine (ok_lstR (f := fun xs => chk (decide (xs.length < lim)) (bnd (put r (.lst (xs ++ [v]))) fun _ => ret Val.non))).trans ?_
  simp
theorem ok_items {v : Val} {P : List Val → S → Prop} : Ok (itemsOf v) s P ↔ (∃ xs, v = .tup xs ∧ P xs s) ∨ (∃ r xs, v = .ref r ∧ s.st[r]? = some (.lst xs) ∧ P xs s) := by
  cases v with
  | tup xs => simp [itemsOf]
  | ref r =>
    show Ok (bnd (look r) fun o => opt (lstOf o)) s P ↔ _
    rw [ok_bnd, ok_look']
    constructor
    · rintro ⟨o, h, k⟩
      cases o with
      | lst xs => simp at k; exact .inr ⟨r, xs, rfl, h, k⟩
      | ins c fs => simp at k
    · rintro (⟨xs, h, k⟩ | ⟨r2, xs, h, h2, k⟩)
      · cases h
      · cases h
        exact ⟨_, h2, by simpa using k⟩
  | _ => simp [itemsOf]
@[scoped simp] theorem ok_joinR {x : Tx} {r : Nat} : Ok (bmv .join (.str x) [.ref r]) s Q ↔ ∃ xs, s.st[r]? = some (.lst xs) ∧ ∃ ss, strsOf xs = some ss ∧ decide ((ss.map (·.length)).sum + ss.length * x.length ≤ lim) = true ∧ Q (.str (joinT x ss)) s := by
  show Ok (bnd (itemsOf (.ref r)) fun xs => bnd (opt (strsOf xs)) fun ss => chk (decide ((ss.map (·.length)).sum + ss.length * x.length ≤ lim)) (ret (.str (joinT x ss)))) s Q ↔ _
  rw [ok_bnd, ok_items]
  simp
@[scoped simp] theorem ok_split {x : Tx} {c : Nat} : Ok (bmv .split (.str x) [.str [c]]) s Q ↔ (decide (x.length + 2 ≤ lim) && decide (c < 256)) = true ∧ Q (.ref s.st.length) ⟨s.st ++ [.lst (svs (splitT c [] x))], s.w⟩ := by
  refine Iff.trans (ok_chk (m := alloc (.lst ((splitT c [] x).map .str)))) (and_congr_right fun _ => ok_alloc)
@[scoped simp] theorem ok_indexT {xs : List Val} {x : Tx} : Ok (bmv .index (.tup xs) [.str x]) s Q ↔ ∃ ss, strsOf xs = some ss ∧ ∃ j, ss.findIdx? (· == x) = some j ∧ Q (.int j) s := by
  show Ok (bnd (opt (strsOf xs)) fun ss => bnd (opt (ss.findIdx? (· == x))) fun j => ret (.int j)) s Q ↔ _
  simp
/-! indexes, slices -/
@[scoped simp] theorem ok_idxT {xs : List Val} {i : Int} : Ok (idxv (.tup xs) (.int i)) s Q ↔ ∃ v, atI xs i = some v ∧ Q v s := ok_opt
@[scoped simp] theorem ok_idxS {x : Tx} {i : Int} : Ok (idxv (.str x) (.int i)) s Q ↔ ∃ c, atI x i = some c ∧ Q (.str [c]) s := by
  show Ok (bnd (opt (atI x i)) fun c => ret (.str [c])) s Q ↔ _
  simp
@[scoped simp] theorem ok_idxRef {r : Nat} {i : Int} : Ok (idxv (.ref r) (.int i)) s Q ↔ ∃ xs, s.st[r]? = some (.lst xs) ∧ ∃ v, atI xs i = some v ∧ Q v s := by
  refine (ok_lstR (f := fun xs => opt (atI xs i))).trans ?_
  simp
@[scoped simp] theorem ok_slcR {r : Nat} {lo hi : Option Int} : Ok (slcv (.ref r) lo hi) s Q ↔ ∃ xs, s.st[r]? = some (.lst xs) ∧ Q (.ref s.st.length) ⟨s.st ++ [.lst (cut xs lo hi)], s.w⟩ := ok_lstAl (f := fun xs => .lst (cut xs lo hi))
@[scoped simp] theorem ok_slcT {xs : List Val} {lo hi : Option Int} : Ok (slcv (.tup xs) lo hi) s Q ↔ Q (.tup (cut xs lo hi)) s := Ok_def
@[scoped simp] theorem ok_slcS {x : Tx} {lo hi : Option Int} : Ok (slcv (.str x) lo hi) s Q ↔ Q (.str (cut x lo hi)) s := Ok_def
@[scoped simp] theorem ok_revR {r : Nat} : Ok (revv (.ref r)) s Q ↔ ∃ xs, s.st[r]? = some (.lst xs) ∧ Q (.ref s.st.length) ⟨s.st ++ [.lst xs.reverse], s.w⟩ := ok_lstAl (f := fun xs => .lst xs.reverse)
theorem atI_n {α : Type} {xs : List α} {k : Nat} {v : α} (h : xs[k]? = some v) : atI xs (k : Int) = some v := by
  have hk := (List.getElem?_eq_some_iff.mp h).1
  unfold atI ixN
  rw [if_pos (by omega), if_pos (by omega)]
  simpa using h
@[scoped simp] theorem atI_0 {α : Type} {a : α} {r : List α} : atI (a :: r) 0 = some a := atI_n (k := 0) rfl
@[scoped simp] theorem atI_1 {α : Type} {a b : α} {r : List α} : atI (a :: b :: r) 1 = some b := atI_n (k := 1) rfl
@[scoped simp] theorem atI_2 {α : Type} {a b c : α} {r : List α} : atI (a :: b :: c :: r) 2 = some c := atI_n (k := 2) rfl
@[scoped simp] theorem atI_3 {α : Type} {a b c e : α} {r : List α} : atI (a :: b :: c :: e :: r) 3 = some e := atI_n (k := 3) rfl
theorem atI_last {α : Type} {xs : List α} {v : α} : atI (xs ++ [v]) (-1) = some v := by
  unfold atI ixN
  rw [if_neg (by decide), if_pos (by simp; omega)]
  simp
  rw [show (-1 + ((xs.length : Int) + 1)).toNat = xs.length by omega]
  simp
theorem sIx_0 {n d : Nat} : sIx n d (some 0) = 0 := by simp [sIx]
/-! operators on lists -/
@[scoped simp] theorem ok_addL {i j : Nat} : Ok (opv .add (.ref i) (.ref j)) s Q ↔ ∃ xs, s.st[i]? = some (.lst xs) ∧ ∃ ys, s.st[j]? = some (.lst ys) ∧ decide (xs.length + ys.length ≤ lim) = true ∧ Q (.ref s.st.length) ⟨s.st ++ [.lst (xs ++ ys)], s.w⟩ := by
  refine (ok_lstR (f := fun xs => bnd (look j) fun o2 => bnd (opt (lstOf o2)) fun ys => chk (decide (xs.length + ys.length ≤ lim)) (alloc (.lst (xs ++ ys))))).trans ?_
  simp only [ok_lstR, ok_chk, ok_alloc]
@[scoped simp] theorem ok_mulL {i : Nat} {k : Int} : Ok (opv .mul (.ref i) (.int k)) s Q ↔ ∃ xs, s.st[i]? = some (.lst xs) ∧ (decide (-(2 ^ 63) ≤ k) && decide (k < 2 ^ 63) && decide (xs.length * k.toNat ≤ lim)) = true ∧ Q (.ref s.st.length) ⟨s.st ++ [.lst (repl xs k.toNat)], s.w⟩ := by
  refine (ok_lstR (f := fun xs => chk (decide (-(2 ^ 63) ≤ k) && decide (k < 2 ^ 63) && decide (xs.length * k.toNat ≤ lim)) (alloc (.lst (repl xs k.toNat))))).trans ?_
  simp only [ok_chk, ok_alloc]
@[scoped simp] theorem ok_mulT {x : List Val} {k : Int} : Ok (opv .mul (.tup x) (.int k)) s Q ↔ (decide (1 ≤ x.length) && decide (x.length ≤ 1000) && decide (2 ≤ k) && decide (k ≤ 1000)) = true ∧ Q (.tup (repl x k.toNat)) s := ok_chkR
@[scoped simp] theorem ok_addS {x y : Tx} : Ok (opv .add (.str x) (.str y)) s Q ↔ decide (x.length + y.length ≤ lim) = true ∧ Q (.str (x ++ y)) s := ok_chkR
@[scoped simp] theorem ok_addT {x y : List Val} : Ok (opv .add (.tup x) (.tup y)) s Q ↔ decide (x.length + y.length ≤ lim) = true ∧ Q (.tup (x ++ y)) s := ok_chkR
@[scoped simp] theorem ok_augI {i j : Int} : Ok (augv .add (.int i) (.int j)) s Q ↔ Q (.int (i + j)) s := Ok_def
@[scoped simp] theorem ok_augL {i j : Nat} : Ok (augv .add (.ref i) (.ref j)) s Q ↔ (i != j) = true ∧ ∃ xs, s.st[i]? = some (.lst xs) ∧ ∃ ys, s.st[j]? = some (.lst ys) ∧ decide (xs.length + ys.length ≤ lim) = true ∧ Q (.ref i) ⟨s.st.set i (.lst (xs ++ ys)), if obRef (.lst (xs ++ ys)) then min s.w i else s.w⟩ := by
  refine ok_chk.trans (and_congr_right fun _ => ?_)
  refine (ok_lstR (f := fun xs => bnd (look j) fun o2 => bnd (opt (lstOf o2)) fun ys => chk (decide (xs.length + ys.length ≤ lim)) (bnd (put i (.lst (xs ++ ys))) fun _ => ret (Val.ref i)))).trans ?_
  simp only [ok_lstR]
  simp only [ok_chk, ok_bnd, ok_put, ok_ret]
/-! `in` -/
theorem mem_def {a : Val} {r : Nat} : cmpv g .mem a (.ref r) = (bnd (itemsOf (.ref r)) fun xs => bnd (deepM a) fun d => bnd (deepM (.tup xs)) fun t => (match t with
      | .tup ds => ret (memV d ds)
      | _ => bad)) := by
  cases a with
  | str x => rcases x with _ | ⟨c, _ | ⟨e, x⟩⟩ <;> rfl
  | _ => rfl
theorem nmem_def {a : Val} {r : Nat} : cmpv g .nmem a (.ref r) = (bnd (itemsOf (.ref r)) fun xs => bnd (deepM a) fun d => bnd (deepM (.tup xs)) fun t => (match t with
      | .tup ds => ret (!memV d ds)
      | _ => bad)) := by
  cases a with
  | str x => rcases x with _ | ⟨c, _ | ⟨e, x⟩⟩ <;> rfl
  | _ => rfl
theorem ok_memL {a d : Val} {xs ds : List Val} {r : Nat} (h : s.st[r]? = some (.lst xs)) (h1 : deep s.st 60 a = some d) (h2 : deep s.st 60 (.tup xs) = some (.tup ds)) : Ok (cmpv g .mem a (.ref r)) s PB ↔ PB (memV d ds) s := by
  refine (ok_congr (m2 := bnd (itemsOf (.ref r)) fun xs => bnd (deepM a) fun d => bnd (deepM (.tup xs)) fun t => (match t with
      | .tup ds => ret (memV d ds)
      | _ => bad)) ?_).trans ?_
  · rw [mem_def]
  · have e : deepM a s = .ok d s := by unfold deepM; rw [h1]
    have e2 : deepM (.tup xs) s = .ok (.tup ds) s := by unfold deepM; rw [h2]
    rw [ok_bnd, ok_items]
    constructor
    · rintro (⟨xs, h, k⟩ | ⟨r2, xs, h', h2, k⟩)
      · cases h
      · cases h'
        rw [h] at h2
        cases h2
        rw [ok_bnd, ok_of e, ok_bnd, ok_of e2] at k
        exact ok_ret.mp k
    · exact fun k => .inr ⟨r, xs, rfl, h, by rw [ok_bnd, ok_of e, ok_bnd, ok_of e2]; exact ok_ret.mpr k⟩
theorem memV_strs {x : Tx} {ys : List Tx} : memV (.str x) (svs ys) = ys.contains x := by
  unfold memV svs
  induction ys with
  | nil => rfl
  | cons y r ih =>
    simp only [List.map_cons, List.any_cons, List.contains_cons, ih, veq]
    rw [show (y == x) = (x == y) from Bool.beq_comm ..]
theorem deep_tup {st : List Ob} {xs : List Tx} : deep st 60 (.tup (svs xs)) = some (.tup (svs xs)) := by
  unfold deep
  simp only [deep_strs]
theorem ok_memS {x : Tx} {ys : List Tx} {r : Nat} (h : s.st[r]? = some (.lst (svs ys))) : Ok (cmpv g .mem (.str x) (.ref r)) s PB ↔ PB (ys.contains x) s := by
  rw [ok_memL h (d := .str x) rfl deep_tup, memV_strs]
theorem ok_nmem' {a : Val} {r : Nat} : Ok (cmpv g .nmem a (.ref r)) s PB ↔ Ok (cmpv g .mem a (.ref r)) s fun k s2 => PB (!k) s2 := by
  have e : ∀ P2 : Bool → S → Prop, Ok (cmpv g .mem a (.ref r)) s P2 ↔ Ok (bnd (itemsOf (.ref r)) fun xs => bnd (deepM a) fun d => bnd (deepM (.tup xs)) fun t => (match t with
      | .tup ds => ret (memV d ds)
      | _ => bad)) s P2 := fun P2 => ok_congr (by rw [mem_def])
  rw [e]
  refine (ok_congr (m2 := bnd (itemsOf (.ref r)) fun xs => bnd (deepM a) fun d => bnd (deepM (.tup xs)) fun t => (match t with
      | .tup ds => ret (!memV d ds)
      | _ => bad)) (by rw [nmem_def])).trans ?_
  simp only [ok_bnd]
  refine ok_iff fun xs s1 => ok_iff fun d s2 => ok_iff fun t s3 => ?_
  cases t <;> simp
theorem ok_nmemS {x : Tx} {ys : List Tx} {r : Nat} (h : s.st[r]? = some (.lst (svs ys))) : Ok (cmpv g .nmem (.str x) (.ref r)) s PB ↔ PB (!ys.contains x) s := by
  rw [ok_nmem', ok_memS h]
end
end PI.MX
namespace PI.MX
/-- a value is given back by a function that knew no more of the store -/
theorem lv {st tl : List Ob} {w w' : Nat} {v : Val} {P : Val → S → Prop} (hw : st.length ≤ w') (hv : hasRef v = false) (q : P v ⟨st, w⟩) : Ok (leave st.length w v) ⟨st ++ tl, w'⟩ P := by
  refine (ok_leave hw hv).mpr ?_
  rw [List.take_left]
  exact q
theorem lv0 {st : List Ob} {w w' : Nat} {v : Val} {P : Val → S → Prop} (hw : st.length ≤ w') (hv : hasRef v = false) (q : P v ⟨st, w⟩) : Ok (leave st.length w v) ⟨st, w'⟩ P := by
  refine (ok_leave hw hv).mpr ?_
  rw [List.take_of_length_le (Nat.le_refl _)]
  exact q
/-- a new object -/
theorem lvN {st tl : List Ob} {w w' k : Nat} {o : Ob} {P : Val → S → Prop} (hw : st.length ≤ w') (ho : tl[k]? = some o) (hv : obRef o = false) (q : P (.ref st.length) ⟨st ++ [o], w⟩) : Ok (leave st.length w (.ref (st.length + k))) ⟨st ++ tl, w'⟩ P := by
  refine (ok_leaveR hw (Nat.le_add_right _ _) (o := o) ?_ hv).mpr ?_
  · rw [stk, ho]
  · rw [List.take_left]
    exact q
theorem st_take {st : List Ob} {r : Nat} {o : Ob} : (st.set r o).take st.length = st.set r o := List.take_of_length_le (by rw [List.length_set]; exact Nat.le_refl _)
end PI.MX
namespace PI.MX
section
variable {g : G} {s : S} {PB : Bool → S → Prop}
theorem atI_m1 {α : Type} {xs : List α} : atI xs (-1) = xs.getLast? := by
  unfold atI ixN
  rw [if_neg (by decide)]
  cases xs with
  | nil => rfl
  | cons x r =>
    rw [if_pos (by simp; omega), List.getLast?_eq_getElem?]
    simp
    rw [show (-1 + ((r.length : Int) + 1)).toNat = r.length by omega]
    simp
theorem ok_eqNil {st : List Ob} {w i j : Nat} {xs : List Val} (h1 : st[i]? = some (.lst xs)) (h2 : st[j]? = some (.lst [])) (hf : flat.flats xs = true) (hd : dep.deps xs ≤ 50) : Ok (cmpv g .eq (.ref i) (.ref j)) ⟨st, w⟩ PB ↔ PB xs.isEmpty ⟨st, w⟩ := by
  have d1 : deep st 60 (.ref i) = some (.lst xs) := by
    unfold deep
    rw [h1]
    simp only [deeps_flat (st := st) (n := 59) hf (by omega)]
  have d2 : deep st 60 (.ref j) = some (.lst []) := by
    unfold deep
    rw [h2]
    rfl
  rw [ok_eq (by simp [insOf, h1]) d1 d2]
  have e : veq (.lst xs) (.lst []) = xs.isEmpty := by
    cases xs <;> simp [veq, veqs]
  rw [e]
end
end PI.MX
namespace PI.MX
section
variable {α : Type}
/-- turns over typed items; they leave the store as it is -/
theorem ok_compM {step : Val → M (Option Val)} {q : Src} {items : List α} {f : α → Val} {s : S} {P : List Val → S → Prop} (F : α → Option Val) (hsrc : ∀ i, srcAt q i s = .ok (items.map f)[i]? s)
    (hstep : ∀ a ∈ items, Ok (step (f a)) s fun y s2 => y = F a ∧ s2 = s) (hl : items.length ≤ lim) (fin : P (items.filterMap F) s) : Ok (compN step q items.length 0 []) s P := by
  refine ok_compN (xs := items.map f) (fun i acc s2 => s2 = s ∧ acc = (items.take i).filterMap F) (fun i acc s2 h => by rw [h.1]; exact hsrc i) ?_ ?_ items.length 0 [] s (by simp) ⟨rfl, rfl⟩
  · rintro i v acc s2 hv ⟨rfl, rfl⟩
    rw [List.getElem?_map] at hv
    obtain ⟨a, ha, rfl⟩ := Option.map_eq_some_iff.mp hv
    have hi := (List.getElem?_eq_some_iff.mp ha).1
    refine ok_mono (hstep a (List.mem_of_getElem? ha)) ?_
    rintro y s3 ⟨rfl, rfl⟩
    have e := filterMap_take F items i a ha
    cases hF : F a with
    | none => rw [hF] at e; exact ⟨rfl, by rw [e]; simp⟩
    | some z => rw [hF] at e; exact ⟨filterMap_lim F items i hi hl, rfl, by rw [e]⟩
  · rintro acc s2 ⟨rfl, rfl⟩
    rw [List.length_map, List.take_of_length_le (Nat.le_refl _)]
    exact fin
/-- a comprehension without a condition over a list object of typed items -/
theorem ok_compLive {g : G} {fr : Fr} {elt src : E} {t : Tg} {r : Nat} {items : List α} {f F : α → Val} {st : List Ob} {w : Nat} {Q : Val → S → Prop} (fr' : α → Fr) (hr : ∀ P : Val → S → Prop, Ok (ev g fr src) ⟨st, w⟩ P ↔ P (.ref r) ⟨st, w⟩) (h : st[r]? = some (.lst (items.map f))) (hl : items.length ≤ lim)
    (ht : ∀ a, setTg t (f a) (wipeF fr (tgIx t)) = some (fr' a)) (hs : ∀ a ∈ items, Ok (ev g (fr' a) elt) ⟨st, w⟩ fun y s2 => y = F a ∧ s2 = ⟨st, w⟩)
    (q : Q (.ref st.length) ⟨st ++ [.lst (items.map F)], w⟩) : Ok (ev g fr (.comp elt t .seq (Es.cons src Es.nil) E.no)) ⟨st, w⟩ Q := by
  rw [ok_comp, ok_cons, hr, ok_nil, ok_srcV (s := ⟨st, w⟩) h]
  refine ⟨rfl, ?_⟩
  rw [srcLen_live (s := ⟨st, w⟩) h, List.length_map]
  refine ok_compM (f := f) (fun a => some (F a)) (fun i => src_live h) ?_ hl ?_
  · intro a ha
    rw [turn_no (ht a)]
    exact ok_mono (hs a ha) fun y s2 k => ⟨by rw [k.1], k.2⟩
  · have e : items.filterMap (fun a => some (F a)) = items.map F := by
      clear h hl hs q
      induction items with
      | nil => rfl
      | cons x r ih => simp [ih]
    rw [e]
    exact q
end
end PI.MX
namespace PI.MX
/-- the turn of a comprehension with a condition -/
theorem turn_c {g : G} {fr fr' : Fr} {elt a b : E} {o : Cp} {t : Tg} {v : Val} {s : S} {P : Option Val → S → Prop} (h : setTg t v (wipeF fr (tgIx t)) = some fr') : Ok (match setTg t v (wipeF fr (tgIx t)) with
      | none => bad
      | some fr' => bnd (match E.cmp o a b with
        | .no => ret true
        | _ => bnd (ev g fr' (E.cmp o a b)) truth) fun b => (match b with
          | true => bnd (ev g fr' elt) fun y => ret (some y)
          | false => ret none)) s P ↔ Ok (ev g fr' (.cmp o a b)) s fun x s1 => Ok (truth x) s1 fun k s2 => if k = true then Ok (ev g fr' elt) s2 fun y s3 => P (some y) s3 else P none s2 := by
  rw [h]
  simp only [ok_bnd]
  refine ok_iff fun x s1 => ok_iff fun k s2 => ?_
  cases k <;> simp
end PI.MX
namespace PI.MX
theorem turn_c' {g : G} {fr fr' : Fr} {elt c : E} {t : Tg} {v : Val} {s : S} {P : Option Val → S → Prop} (h : setTg t v (wipeF fr (tgIx t)) = some fr') : Ok (match setTg t v (wipeF fr (tgIx t)) with
      | none => bad
      | some fr' => bnd (bnd (ev g fr' c) truth) fun b => (match b with
          | true => bnd (ev g fr' elt) fun y => ret (some y)
          | false => ret none)) s P ↔ Ok (ev g fr' c) s fun x s1 => Ok (truth x) s1 fun k s2 => if k = true then Ok (ev g fr' elt) s2 fun y s3 => P (some y) s3 else P none s2 := by
  rw [h]
  simp only [ok_bnd]
  refine ok_iff fun x s1 => ok_iff fun k s2 => ?_
  cases k <;> simp
end PI.MX
end

section
set_option Elab.async false
set_option linter.all false
set_option maxRecDepth 100000
/-! PyT0: reading the text of a site. -/
namespace PI.MX
def abcT : Tx := [97, 98, 99, 100, 101, 102, 103, 104, 105, 106, 107, 108, 109, 110, 111, 112, 113, 114, 115, 116, 117, 118, 119, 120, 121, 122]
def isNameB (x : Tx) : Bool := decide (1 ≤ x.length) && decide (x.length ≤ 8) && x.all fun c => decide (c ∈ abcT)
theorem blsOf_map {α : Type} {f : α → Bool} {xs : List α} : blsOf (xs.map fun x => Val.bl (f x)) = some (xs.map f) := by
  induction xs with
  | nil => rfl
  | cons x r ih => simp [blsOf, ih]
theorem filterMap_some {α β : Type} {f : α → β} {xs : List α} : xs.filterMap (fun x => some (f x)) = xs.map f := by
  induction xs with
  | nil => rfl
  | cons x r ih => simp [ih]
/-- what a sign's turn gives -/
def inAbc : Val → Option Val
  | .str [c] => some (.bl (decide (c ∈ abcT)))
  | _ => none
theorem is_name_ok {d w : Nat} {st : List Ob} {x : Tx} {P : Val → S → Prop} (hx : x.length ≤ lim) (q : P (.bl (isNameB x)) ⟨st, w⟩) : Ok (callN pgA wfA (d + 1) F_is_name [.str x]) ⟨st, w⟩ P := by
  refine ok_callN (df := d_is_name) rfl rfl ?_
  simp [d_is_name, ok_var, tyIs, hx]
  by_cases h1 : 1 ≤ (x.length : Int)
  · by_cases h2 : (x.length : Int) ≤ 8
    · rw [if_pos h1, if_pos h2, ok_comp]
      simp [ok_var]
      refine ⟨rfl, ?_⟩
      have e : srcLen (.sgn x) ⟨st, st.length⟩ = (x.map fun c => Val.str [c]).length := (List.length_map ..).symm
      rw [e]
      refine ok_compE inAbc (fun i => src_sgn) ?_ (by simp [hx]) ?_
      · intro v hv
        obtain ⟨c, hc, rfl⟩ := List.mem_map.mp hv
        rw [turn_no rfl]
        simp [ok_var]
        exact ⟨rfl, rfl⟩
      · have e2 : (x.map fun c => Val.str [c]).filterMap inAbc = x.map fun c => Val.bl (decide (c ∈ abcT)) := by
          rw [List.filterMap_map]
          exact filterMap_some
        rw [e2]
        simp [blsOf_map]
        refine (ok_leave (Nat.le_refl _) rfl).mpr ?_
        simp
        have e3 : isNameB x = x.all fun c => decide (c ∈ abcT) := by
          unfold isNameB
          rw [decide_eq_true (by omega), decide_eq_true (by omega)]
          rfl
        rw [e3] at q
        exact q
    · rw [if_pos h1, if_neg h2]
      refine (ok_leave (Nat.le_refl _) rfl).mpr ?_
      rw [List.take_of_length_le (Nat.le_refl _)]
      rwa [show isNameB x = false by unfold isNameB; rw [decide_eq_false (show ¬x.length ≤ 8 by omega)]; simp] at q
  · rw [if_neg h1]
    refine (ok_leave (Nat.le_refl _) rfl).mpr ?_
    rw [List.take_of_length_le (Nat.le_refl _)]
    rwa [show isNameB x = false by unfold isNameB; rw [decide_eq_false (show ¬1 ≤ x.length by omega)]; simp] at q
def figB (x : Tx) (lo hi : Int) : Option Int := match x with
  | [c] => if 48 ≤ c ∧ c ≤ 57 ∧ lo ≤ (c : Int) - 48 ∧ (c : Int) - 48 ≤ hi then some ((c : Int) - 48) else none
  | _ => none
def figV (o : Option Int) : Val := match o with
  | some i => .int i
  | none => .non
theorem dig_mem {c : Nat} : c ∈ ([48, 49, 50, 51, 52, 53, 54, 55, 56, 57] : List Nat) ↔ 48 ≤ c ∧ c ≤ 57 := by
  simp
  omega
theorem read_figure_ok {d w : Nat} {st : List Ob} {x : Tx} {lo hi : Int} {P : Val → S → Prop} (hx : x.length ≤ lim) (q : P (figV (figB x lo hi)) ⟨st, w⟩) : Ok (callN pgA wfA (d + 1) F_read_figure [.str x, .int lo, .int hi]) ⟨st, w⟩ P := by
  refine ok_callN (df := d_read_figure) rfl rfl ?_
  rcases x with _ | ⟨c, _ | ⟨c2, r⟩⟩
  · simp [d_read_figure, ok_var]
    exact lv0 (Nat.le_refl _) rfl q
  · simp only [d_read_figure]
    by_cases h : 48 ≤ c ∧ c ≤ 57
    · simp [ok_var, dig_mem, h, -List.mem_cons]
      refine ⟨by decide, ?_⟩
      by_cases h3 : lo ≤ (c : Int) - 48
      · by_cases h4 : (c : Int) - 48 ≤ hi
        · simp [h3, h4, figB, h, figV] at q ⊢
          exact lv0 (Nat.le_refl _) rfl q
        · simp [h3, h4, figB, h, figV] at q ⊢
          exact lv0 (Nat.le_refl _) rfl q
      · simp [h3, figB, h, figV] at q ⊢
        exact lv0 (Nat.le_refl _) rfl q
    · have e : figB [c] lo hi = none := by
        simp only [figB]
        rw [if_neg (by omega)]
      rw [e] at q
      simp [ok_var, dig_mem, h, -List.mem_cons]
      exact ⟨by decide, lv0 (Nat.le_refl _) rfl q⟩
  · simp [d_read_figure, ok_var]
    have n1 : ¬((r.length : Int) + 1 + 1 = 1) := by omega
    rw [if_neg n1]
    exact ⟨hx, lv0 (Nat.le_refl _) rfl q⟩

def lastOk (acc : List (Tx × Int)) (e : Tx) : Bool := match acc.getLast? with
  | some z => decide (z.1 < e)
  | none => true
def rwGo (name : Tx) (ends : List Tx) : List Tx → List (Tx × Int) → Option (List (Tx × Int))
  | e :: t :: r, acc => match figB t 1 3 with
    | none => none
    | some n => if isNameB e && e != name && ends.contains e && lastOk acc e then rwGo name ends r (acc ++ [(e, n)]) else none
  | _, acc => some acc
def rwB (ws : List Tx) (name : Tx) (ends : List Tx) : Option (List (Tx × Int)) := if ws = [] ∨ ws.length % 2 = 1 then none else rwGo name ends ws []
def wayV (x : Tx × Int) : Val := .tup [.str x.1, .int x.2]
def waysV (ws : List (Tx × Int)) : Val := .tup (ws.map wayV)
def waysO : Option (List (Tx × Int)) → Val
  | some ws => waysV ws
  | none => .non
theorem flat_wayV {x : Tx × Int} : flat (wayV x) = true := rfl
theorem flat_waysV {ws : List (Tx × Int)} : flat (waysV ws) = true := by
  simp only [waysV, flat]
  exact flats_map fun x _ => flat_wayV
theorem fmod2 {n : Nat} : ((n : Int).fmod 2 = 1) ↔ n % 2 = 1 := by
  rw [Int.fmod_eq_emod_of_nonneg _ (by omega)]
  omega
theorem ok_srcR2 {n : Nat} {s : S} {P : Src → S → Prop} (h : n ≤ lim) : Ok (srcOf .range3 [.int 0, .int n, .int 2]) s P ↔ P (.rng 0 2 ((n + 1) / 2)) s := by
  have e : PySem.Builtin.Range.rangeSize 0 n 2 = (((n + 1) / 2 : Nat) : Int) := by
    unfold PySem.Builtin.Range.rangeSize
    rw [if_pos (by decide)]
    split <;> omega
  simp only [srcOf]
  rw [e, ok_chk]
  have c : ((2 : Int) != 0 && decide ((2 : Int).natAbs < 1073741824) && PySem.Builtin.Range.small 0 n 2 && decide (0 ≤ (((n + 1) / 2 : Nat) : Int))) = true := by
    have hn : n ≤ 16777216 := h
    have f : ∀ x : Int, 0 ≤ x → x ≤ 16777220 → PySem.Builtin.Range.rangeFitsLong x = true := fun x h0 h1 => by
      unfold PySem.Builtin.Range.rangeFitsLong
      rw [Bool.and_eq_true, decide_eq_true_eq, decide_eq_true_eq]
      omega
    unfold PySem.Builtin.Range.small
    rw [e, f 0 (by omega) (by omega), f n (by omega) (by omega), f 2 (by omega) (by omega), f _ (by omega) (by omega), if_pos (by decide), f (n + (2 - 1)) (by omega) (by omega), decide_eq_true (by omega : (0 : Int) ≤ (((n + 1) / 2 : Nat) : Int))]
    simp
  rw [c]
  simp only [true_and, ok_ret, Int.toNat_natCast]
end PI.MX
end

section
set_option Elab.async false
set_option linter.all false
set_option maxRecDepth 100000
namespace PI.MX
theorem read_ways_ok {d w r1 r2 : Nat} {st : List Ob} {ws ends : List Tx} {name : Tx} {P : Val → S → Prop} (h1 : st[r1]? = some (.lst (svs ws))) (h2 : st[r2]? = some (.lst (svs ends))) (hl : ws.length ≤ lim) (hx : ∀ x ∈ ws, x.length ≤ lim)
    (q : P (waysO (rwB ws name ends)) ⟨st, w⟩) : Ok (callN pgA wfA (d + 2) F_read_ways [.ref r1, .str name, .ref r2]) ⟨st, w⟩ P := by
  refine ok_callN (df := d_read_ways) rfl rfl ?_
  have h1' : ∀ tl, (st ++ tl)[r1]? = some (.lst (svs ws)) := fun tl => sto h1
  have h2' : ∀ tl, (st ++ tl)[r2]? = some (.lst (svs ends)) := fun tl => sto h2
  have nil : svs [] = [] := rfl
  simp [d_read_ways, ok_var]
  rw [ok_eqL (ys := []) (h1' _) (by simp [nil])]
  by_cases e0 : ws = []
  · have z : rwB ws name ends = none := by unfold rwB; rw [if_pos (.inl e0)]
    rw [z] at q
    simp only [e0, beq_self_eq_true, if_true]
    exact lv (Nat.le_refl _) rfl q
  have e1 : (ws == []) = false := by simpa using e0
  simp [e1, h1', svs]
  by_cases e2 : ws.length % 2 = 1
  · have z : rwB ws name ends = none := by unfold rwB; rw [if_pos (.inr e2)]
    rw [z] at q
    rw [if_pos (fmod2.mpr e2)]
    exact lv (Nat.le_refl _) rfl q
  rw [if_neg (fun h => e2 (fmod2.mp h)), okt_loop]
  have z : rwB ws name ends = rwGo name ends ws [] := by unfold rwB; rw [if_neg (by simp [e0, e2])]
  rw [z] at q
  simp [ok_var, h1', svs]
  rw [ok_srcR2 hl]
  refine ⟨rfl, ?_⟩
  obtain ⟨m, hm⟩ : ∃ m, ws.length = 2 * m := ⟨ws.length / 2, by omega⟩
  have hm2 : (ws.length + 1) / 2 = m := by omega
  rw [hm2]
  have hlen : ((List.range m).map fun j : Nat => Val.int (2 * j)).length = m := by simp
  refine okt_forN (xs := (List.range m).map fun j : Nat => Val.int (2 * j)) (fun i fr s => ∃ acc tl x4 x5 x6, fr = [some (.ref r1), some (.str name), some (.ref r2), some (.ref (st.length + 1)), x4, x5, x6] ∧ s = ⟨st ++ ([.lst [], .lst (acc.map wayV)] ++ tl), st.length⟩ ∧ acc.length = i ∧ rwGo name ends ws [] = rwGo name ends (ws.drop (2 * i)) acc) ?_ ?_ ?_ m 0 _ _ (by rw [hlen]; omega) ⟨[], [], none, none, none, by simp, by simp, rfl, rfl⟩
  · intro i fr s _
    show R.ok (if i < m then some (Val.int (0 + (i : Int) * 2)) else none) s = _
    congr 1
    by_cases hi : i < m
    · rw [if_pos hi, List.getElem?_map, List.getElem?_range hi]
      simp
      omega
    · rw [if_neg hi, List.getElem?_eq_none (by rw [hlen]; omega)]
  · rintro i v fr s hv ⟨acc, tl, x4, x5, x6, rfl, rfl, ha, hg⟩
    have hi : i < m := by have := (List.getElem?_eq_some_iff.mp hv).1; rwa [hlen] at this
    rw [List.getElem?_map, List.getElem?_range hi] at hv
    simp at hv
    subst hv
    refine ⟨_, rfl, ?_⟩
    obtain ⟨e, he⟩ : ∃ e, ws[2 * i]? = some e := ⟨ws[2 * i], List.getElem?_eq_getElem (by omega)⟩
    obtain ⟨t, ht⟩ : ∃ t, ws[2 * i + 1]? = some t := ⟨ws[2 * i + 1], List.getElem?_eq_getElem (by omega)⟩
    have hdr : ws.drop (2 * i) = e :: t :: ws.drop (2 * (i + 1)) := by
      rw [List.drop_eq_getElem_cons (by omega), List.drop_eq_getElem_cons (i := 2 * i + 1) (by omega)]
      rw [List.getElem?_eq_getElem (by omega)] at he ht
      rw [Option.some.inj he, Option.some.inj ht]
      rfl
    have a1 : atI (svs ws) (2 * (i : Int)) = some (.str e) := atI_n (k := 2 * i) (by simp [svs, he])
    have a2 : atI (svs ws) (2 * (i : Int) + 1) = some (.str t) := atI_n (k := 2 * i + 1) (by simp [svs, ht])
    have m1 : e ∈ ws := List.mem_of_getElem? he
    have m2 : t ∈ ws := List.mem_of_getElem? ht
    rw [hdr] at hg
    simp [ok_var, h1', a1, a2]
    refine read_figure_ok (hx t m2) ?_
    refine is_name_ok (hx e m1) ?_
    have bad : rwGo name ends (e :: t :: ws.drop (2 * (i + 1))) acc = none → ∀ w' tl', st.length ≤ w' → Ok (leave st.length w Val.non) ⟨st ++ tl', w'⟩ P := fun h w' tl' hw => by
      rw [hg, h] at q
      exact lv hw rfl q
    have un : rwGo name ends (e :: t :: ws.drop (2 * (i + 1))) acc = match figB t 1 3 with
      | none => none
      | some n => if isNameB e && e != name && ends.contains e && lastOk acc e then rwGo name ends (ws.drop (2 * (i + 1))) (acc ++ [(e, n)]) else none := rfl
    rw [ok_truth]
    by_cases b1 : isNameB e = true
    · rw [if_pos b1]
      by_cases b2 : e = name
      · rw [if_pos b2]
        exact bad (by rw [un]; cases figB t 1 3 <;> simp [b2]) _ _ (Nat.le_refl _)
      · rw [if_neg b2, ok_nmemS (h2' _)]
        by_cases b3 : ends.contains e = true
        · rw [b3]
          cases b4 : figB t 1 3 with
          | none =>
            simp [figV]
            exact bad (by rw [un, b4]) _ _ (Nat.le_refl _)
          | some n =>
            simp [figV]
            rw [ok_eqNil (xs := acc.map wayV) (by rw [stk]; rfl) (by simp) (flats_map fun x _ => flat_wayV) (deps_map fun x _ => by simp [wayV, dep, dep.deps])]
            simp [ok_var, stk, atI_m1]
            have good : lastOk acc e = true → rwGo name ends ws [] = rwGo name ends (ws.drop (2 * (i + 1))) (acc ++ [(e, n)]) := fun h => by
              rw [hg, un, b4]
              simp [b1, b2, (by simpa using b3 : e ∈ ends), h]
            have hi2 : acc.length < lim := by omega
            have two : 2 ≤ lim := by decide
            by_cases b5 : acc = []
            · rw [if_pos b5]
              exact ⟨rfl, two, hi2, acc ++ [(e, n)], by simp [wayV], by simp [ha], good (by rw [b5]; rfl)⟩
            · rw [if_neg b5]
              obtain ⟨z, hz⟩ : ∃ z, acc.getLast? = some z := ⟨_, List.getLast?_eq_some_getLast b5⟩
              refine ⟨wayV z, ⟨z.1, z.2, hz, rfl⟩, ?_⟩
              simp [wayV, stk]
              by_cases b6 : z.1 < e
              · rw [if_neg (List.not_le.mpr b6)]
                exact ⟨rfl, two, hi2, acc ++ [(e, n)], by simp [wayV], by simp [ha], good (by simp [lastOk, hz, b6])⟩
              · rw [if_pos (List.not_lt.mp b6)]
                exact bad (by rw [un, b4]; simp [lastOk, hz, b6]) _ _ (Nat.le_refl _)
        · simp only [b3, Bool.not_false, if_true]
          exact bad (by rw [un]; cases figB t 1 3 <;> simp [(by simpa using b3 : ¬e ∈ ends)]) _ _ (Nat.le_refl _)
    · rw [if_neg b1]
      exact bad (by rw [un]; cases figB t 1 3 <;> simp [b1]) _ _ (Nat.le_refl _)
  · rintro fr s ⟨acc, tl, x4, x5, x6, rfl, rfl, ha, hg⟩
    simp [ok_var, stk]
    rw [hlen, List.drop_of_length_le (by omega)] at hg
    rw [hg] at q
    exact lv (Nat.le_refl _) (noRef_flat flat_waysV) q
end PI.MX
end

section
set_option Elab.async false
set_option linter.all false
set_option maxRecDepth 100000
/-! PyT2: reading a row. -/
namespace PI.MX
theorem splitT_ne {c : Nat} : ∀ {s acc : Tx}, splitT c acc s ≠ []
  | [], acc => by simp [splitT]
  | x :: r, acc => by
    unfold splitT
    split
    · simp
    · exact splitT_ne
theorem splitT_len {c : Nat} : ∀ {s acc : Tx}, (splitT c acc s).length ≤ s.length + 1
  | [], acc => by simp [splitT]
  | x :: r, acc => by
    unfold splitT
    have h1 := splitT_len (c := c) (s := r) (acc := [])
    have h2 := splitT_len (c := c) (s := r) (acc := acc ++ [x])
    split <;> simp <;> omega
theorem splitT_mem {c : Nat} : ∀ {s acc x : Tx}, x ∈ splitT c acc s → x.length ≤ acc.length + s.length
  | [], acc, x, h => by simp [splitT] at h; subst h; simp
  | y :: r, acc, x, h => by
    unfold splitT at h
    split at h
    · rcases List.mem_cons.mp h with rfl | h
      · simp
      · have := splitT_mem h
        simp at this ⊢
        omega
    · have := splitT_mem h
      simp at this ⊢
      omega
theorem cut_take {α : Type} {xs : List α} {k : Nat} : cut xs none (some (k : Int)) = xs.take k := by
  simp only [cut, sIx]
  rw [if_neg (by omega)]
  simp only [Int.toNat_natCast, Nat.sub_zero, List.drop_zero]
  rcases Nat.le_total k xs.length with h | h
  · rw [Nat.min_eq_left h]
  · rw [Nat.min_eq_right h, List.take_of_length_le (Nat.le_refl _), List.take_of_length_le h]
theorem cut_drop {α : Type} {xs : List α} {k : Nat} : cut xs (some (k : Int)) none = xs.drop k := by
  simp only [cut, sIx]
  rw [if_neg (by omega)]
  simp only [Int.toNat_natCast]
  rw [List.take_of_length_le (by rw [List.length_drop]; omega)]
  rcases Nat.le_total k xs.length with h | h
  · rw [Nat.min_eq_left h]
  · rw [Nat.min_eq_right h, List.drop_of_length_le (Nat.le_refl _), List.drop_of_length_le h]
theorem cut_t1 {α : Type} {xs : List α} : cut xs none (some 1) = xs.take 1 := cut_take (k := 1)
theorem cut_d1 {α : Type} {xs : List α} : cut xs (some 1) none = xs.drop 1 := cut_drop (k := 1)
theorem cut_d2 {α : Type} {xs : List α} : cut xs (some 2) none = xs.drop 2 := cut_drop (k := 2)
theorem svs_nil : svs [] = [] := rfl
theorem svs_cons {x : Tx} {r : List Tx} : svs (x :: r) = .str x :: svs r := rfl
theorem svs_take {xs : List Tx} {k : Nat} : (svs xs).take k = svs (xs.take k) := List.map_take.symm
theorem svs_drop {xs : List Tx} {k : Nat} : (svs xs).drop k = svs (xs.drop k) := List.map_drop.symm
theorem svs_len {xs : List Tx} : (svs xs).length = xs.length := List.length_map ..
structure Row where
  nm : Tx
  lm : Int
  sy : Bool
  wy : List (Tx × Int)
def rowV (r : Row) : Val := .tup [.str r.nm, .int r.lm, .bl r.sy, waysV r.wy]
def rowO : Option Row → Val
  | some r => rowV r
  | none => .non
def stayT : Tx := [115, 116, 97, 121]
def arrowT : Tx := [45, 62]
def restB (nm : Tx) (l : Int) (firsts : List Tx) (sy : Bool) (rest : List Tx) : Option Row := match rest with
  | [] => if sy then some ⟨nm, l, sy, []⟩ else none
  | a :: r => if a == arrowT then (rwB r nm firsts).map fun w => ⟨nm, l, sy, w⟩ else none
def rowW (ws firsts : List Tx) (place : Nat) : Option Row := match ws with
  | nm :: f :: rest => if isNameB nm && !(firsts.take place).contains nm then (match figB f 0 9 with
    | some l => if rest.take 1 == [stayT] then restB nm l firsts true (rest.drop 1) else restB nm l firsts false rest
    | none => none) else none
  | _ => none
theorem flat_rowV {r : Row} : flat (rowV r) = true := by
  simp [rowV, flat, flat.flats, waysV]
  exact flats_map fun x _ => flat_wayV
theorem nat_2 : ((2 : Nat) : Int) = 2 := rfl
theorem lkp {st tl : List Ob} {i k : Nat} {o : Ob} (hi : i = st.length + k) (h : tl[k]? = some o) : (st ++ tl)[i]? = some o := by
  rw [hi, stk, h]
def drp : Nat → Ts → Ts
  | 0, b => b
  | n + 1, .cons _ r => drp n r
  | _ + 1, .nil => .nil
theorem flats_svs {xs : List Tx} : flat.flats (svs xs) = true := flats_map fun x _ => rfl
theorem deps_svs {xs : List Tx} : dep.deps (svs xs) ≤ 50 := deps_map fun x _ => Nat.zero_le _
theorem row_tail {d w r2 i : Nat} {st tl : List Ob} {nm : Tx} {rest firsts : List Tx} {sy : Bool} {P : Val → S → Prop} {v0 v1 v2 x6 : Option Val} {fg : Option Int} {N : Fr → S → Prop} (h2 : st[r2]? = some (.lst (svs firsts))) (hi : tl[i]? = some (.lst (svs rest)))
    (hl : rest.length ≤ lim) (hx : ∀ x ∈ rest, x.length ≤ lim)
    (q : P (rowO (match fg with | some l => restB nm l firsts sy rest | none => none)) ⟨st, w⟩) :
    OkT (exTs ⟨callN pgA wfA (d + 2), pgA, none, wfA⟩ (drp 6 d_read_row.body) [v0, some (.ref r2), v1, v2, some (.str nm), some (.bl sy), x6, some (figV fg), some (.ref (st.length + i))] ⟨st ++ tl, st.length⟩) N (fun v s2 => Ok (leave st.length w v) s2 P) := by
  have h2' : ∀ tl, (st ++ tl)[r2]? = some (.lst (svs firsts)) := fun tl => sto h2
  have hi' : ∀ tl2, (st ++ (tl ++ tl2))[st.length + i]? = some (.lst (svs rest)) := fun tl2 => by rw [stk]; exact sto hi
  have hi0 : (st ++ tl)[st.length + i]? = some (.lst (svs rest)) := by rw [stk]; exact hi
  have hn : (S.mk (st ++ tl) st.length).st.length = st.length + tl.length := by simp
  cases fg with
  | none =>
    simp [drp, d_read_row, ok_var, figV]
    exact lv (Nat.le_refl _) rfl q
  | some l =>
    have fl : hasRef (rowO (restB nm l firsts sy rest)) = false := by
      cases restB nm l firsts sy rest with
      | none => rfl
      | some r => exact noRef_flat flat_rowV
    have e0 : ∀ (tl2 : List Ob) (k : Nat) (g : G) (PB : Bool → S → Prop), tl2[k]? = some (.lst []) → (Ok (cmpv g .eq (.ref (st.length + i)) (.ref (st.length + (tl.length + k)))) ⟨st ++ (tl ++ tl2), st.length⟩ PB ↔ PB rest.isEmpty ⟨st ++ (tl ++ tl2), st.length⟩) := fun tl2 k g PB h => by
      rw [ok_eqNil (xs := svs rest) (hi' tl2) (by rw [stk, stk]; exact h) flats_svs deps_svs]
      cases rest <;> exact Iff.rfl
    have e00 : ∀ (tl2 : List Ob) (g : G) (PB : Bool → S → Prop), (Ok (cmpv g .eq (.ref (st.length + i)) (.ref (st.length + tl.length))) ⟨st ++ (tl ++ (.lst [] :: tl2)), st.length⟩ PB ↔ PB rest.isEmpty ⟨st ++ (tl ++ (.lst [] :: tl2)), st.length⟩) := fun tl2 g PB => e0 _ 0 g PB rfl
    have e01 : ∀ (o : Ob) (tl2 : List Ob) (g : G) (PB : Bool → S → Prop), (Ok (cmpv g .eq (.ref (st.length + i)) (.ref (st.length + (tl.length + 1)))) ⟨st ++ (tl ++ (o :: .lst [] :: tl2)), st.length⟩ PB ↔ PB rest.isEmpty ⟨st ++ (tl ++ (o :: .lst [] :: tl2)), st.length⟩) := fun o tl2 g PB => e0 _ 1 g PB rfl
    have two : 4 ≤ lim := by decide
    rcases rest with _ | ⟨a, r⟩
    · cases sy
      · simp [drp, d_read_row, ok_var, figV, e00, e01]
        exact lv (Nat.le_refl _) rfl q
      · simp [drp, d_read_row, ok_var, figV, e00, e01]
        exact ⟨two, lv (Nat.le_refl _) rfl q⟩
    · by_cases b : a = [45, 62]
      · have go : ∀ tl2, Ok (ev ⟨callN pgA wfA (d + 2), pgA, none, wfA⟩ [v0, some (Val.ref r2), v1, v2, some (Val.str nm), some (Val.bl sy), x6, some (Val.int l), some (Val.ref (st.length + i))] ((E.var 8).slc (E.k (Val.int 1)) E.no)) ⟨st ++ (tl ++ tl2), st.length⟩ (fun v s1 => Ok (callN pgA wfA (d + 2) F_read_ways [v, Val.str nm, Val.ref r2]) s1 fun v s1 =>
                              Ok (cmpv ⟨callN pgA wfA (d + 2), pgA, none, wfA⟩ Cp.isN v Val.non)
                                s1 fun k s2 =>
                                if k = true then Ok (leave st.length w Val.non) s2 P
                                else 4 ≤ lim ∧ Ok (leave st.length w (Val.tup [Val.str nm, Val.int l, Val.bl sy, v])) s2 P) := fun tl2 => by
          simp [ok_slc, ok_var, hi', cut_d1, svs_drop]
          refine read_ways_ok (ws := r) (ends := firsts) (lkp (k := tl.length + tl2.length) (by simp) (by simp [svs_cons])) (h2' _) ?_ ?_ ?_
          · simp at hl; omega
          · exact fun x m => hx x (List.mem_cons_of_mem _ m)
          · have z : restB nm l firsts sy (a :: r) = (rwB r nm firsts).map fun w => ⟨nm, l, sy, w⟩ := by
              simp only [restB]
              rw [if_pos (by simp [arrowT, b])]
            simp only [z] at q
            cases h : rwB r nm firsts with
            | none =>
              simp [waysO]
              rw [h] at q
              exact lv (Nat.le_refl _) rfl q
            | some ws =>
              simp [waysO, waysV]
              rw [h] at q
              exact ⟨two, lv (Nat.le_refl _) (noRef_flat (flat_rowV (r := ⟨nm, l, sy, ws⟩))) q⟩
        cases sy
        all_goals
          simp [drp, d_read_row, ok_var, figV, e00, e01, hi', svs_cons]
          rw [if_pos b]
          exact go _
      · have z : restB nm l firsts sy (a :: r) = none := by
          simp only [restB]
          rw [if_neg (by simpa [arrowT] using b)]
        simp only [z] at q
        cases sy
        all_goals
          simp [drp, d_read_row, ok_var, figV, e00, e01, hi', svs_cons]
          rw [if_neg b]
          exact lv (Nat.le_refl _) rfl q
theorem read_row_ok {d w r2 place : Nat} {st : List Ob} {row : Tx} {firsts : List Tx} {P : Val → S → Prop} (h2 : st[r2]? = some (.lst (svs firsts))) (hl : row.length + 2 ≤ lim)
    (q : P (rowO (rowW (splitT 32 [] row) firsts place)) ⟨st, w⟩) : Ok (callN pgA wfA (d + 3) F_read_row [.str row, .ref r2, .int place]) ⟨st, w⟩ P := by
  refine ok_callN (df := d_read_row) rfl rfl ?_
  have h2' : ∀ tl, (st ++ tl)[r2]? = some (.lst (svs firsts)) := fun tl => sto h2
  have hm : ∀ x ∈ splitT 32 [] row, x.length ≤ lim := fun x hx => by
    have := splitT_mem hx
    simp at this
    omega
  have hn := splitT_len (c := 32) (s := row) (acc := [])
  obtain ⟨nm, tl, hw⟩ : ∃ nm tl, splitT 32 [] row = nm :: tl := List.exists_cons_of_ne_nil splitT_ne
  rw [hw] at hm hn q
  simp only [d_read_row]
  have none_ : rowW (nm :: tl) firsts place = none → ∀ w' tl', st.length ≤ w' → Ok (leave st.length w Val.non) ⟨st ++ tl', w'⟩ P := fun h w' tl' hw => by
    rw [h] at q
    exact lv hw rfl q
  rw [okt_cons]
  simp [-okt_cons, ok_var, hl]
  rw [okt_cons]
  simp [-okt_cons, ok_var, hw, svs_cons]
  rw [okt_cons]
  simp [-okt_cons, ok_var]
  refine is_name_ok (hm nm (List.mem_cons_self ..)) ?_
  rw [ok_truth]
  by_cases b1 : isNameB nm = true
  · rw [if_pos b1]
    simp [-okt_cons, ok_slc, ok_var, h2', cut_take, svs_take]
    rw [ok_memS (ys := firsts.take place) (lkp (k := 1) rfl rfl)]
    by_cases b2 : (firsts.take place).contains nm = true
    · rw [if_pos b2, okt_cons, okt_ret, ok_k]
      refine none_ ?_ _ _ (Nat.le_refl _)
      rcases tl with _ | ⟨f, rest⟩
      · rfl
      · simp only [rowW]
        rw [b2]
        simp
    · rw [if_neg b2]
      rcases tl with _ | ⟨f, rest⟩
      · simp [svs_nil, st0]
        exact none_ rfl _ _ (Nat.le_refl _)
      · simp [-okt_cons, svs_cons, svs_len, st0]
        rw [if_neg (by omega), okt_cons]
        simp [-okt_cons, ok_var, svs_cons, st0, ok_slc, cut_d2]
        refine read_figure_ok (hm f (by simp)) ?_
        simp [-okt_cons, svs_cons, st0, cut_d2]
        rw [okt_cons]
        simp [-okt_cons, ok_var, svs_cons, stk, ok_slc, cut_t1, svs_take]
        refine ⟨by decide, ?_⟩
        rw [ok_eqL (xs := rest.take 1) (ys := [stayT]) (lkp (k := 3) rfl rfl) (lkp (k := 4) rfl rfl), okt_cons]
        have hb2 : (firsts.take place).contains nm = false := by simpa using b2
        have hlr : rest.length ≤ lim := by simp at hn; omega
        by_cases b3 : (rest.take 1 == [stayT]) = true
        · rw [b3]
          simp [-okt_cons, ok_var]
          rw [okt_cons]
          simp [-okt_cons, ok_var, ok_slc, stk, cut_d1]
          refine row_tail (i := 5) h2 (tl := _) ?_ (rest := rest.drop 1) (by simp; omega) (fun x m => hm x (by have := List.mem_of_mem_drop m; simp [this])) ?_
          · simp
            cases rest <;> rfl
          · simp only [rowW] at q
            rw [if_pos (by rw [b1, hb2]; rfl)] at q
            simp only [b3, if_true] at q
            exact q
        · have b3' := Bool.eq_false_iff.mpr b3
          rw [b3']
          simp [-okt_cons, ok_var]
          refine row_tail (i := 2) h2 (tl := _) ?_ (rest := rest) hlr (fun x m => hm x (by simp [m])) ?_
          · simp
          · simp only [rowW] at q
            rw [if_pos (by rw [b1, hb2]; rfl)] at q
            simp only [b3', if_false, Bool.false_eq_true] at q
            exact q
  · rw [if_neg b1, okt_cons, okt_ret, ok_k]
    refine none_ ?_ _ _ (Nat.le_refl _)
    rcases tl with _ | ⟨f, rest⟩
    · rfl
    · simp only [rowW]
      rw [if_neg (by simp [b1])]
end PI.MX
end

section
set_option Elab.async false
set_option linter.all false
set_option maxRecDepth 100000
/-! PyT3: reading rows. -/
namespace PI.MX
def firstW (x : Tx) : Tx := (splitT 32 [] x).headD []
def firstV : Val → Option Val
  | .str x => some (.str (firstW x))
  | _ => none
def readsAs (rows : List Tx) (rs : List Row) : Prop := rs.length = rows.length ∧ ∀ i r row, rs[i]? = some r → rows[i]? = some row → rowW (splitT 32 [] row) (rows.map firstW) i = some r
theorem src_enum {r i : Nat} {xs : List Val} {s : S} (h : s.st[r]? = some (.lst xs)) : srcAt (.enum r) i s = .ok (xs.mapIdx fun i x => Val.tup [.int i, x])[i]? s := by
  show bnd (look r) _ s = _
  unfold bnd look
  rw [h]
  simp [lstOf, bnd, opt, ret, List.getElem?_mapIdx]
theorem srcLen_enum {r : Nat} {xs : List Val} {s : S} (h : s.st[r]? = some (.lst xs)) : srcLen (.enum r) s = xs.length := by
  simp [srcLen, h]
theorem read_rows_ok {d w : Nat} {st : List Ob} {text : Tx} {rs : List Row} {P : Val → S → Prop} (ht : text ≠ []) (hl : text.length + 2 ≤ lim) (h6 : rs.length ≤ 6) (hr : readsAs (splitT 10 [] text) rs)
    (q : P (.ref st.length) ⟨st ++ [.lst (rs.map rowV)], w⟩) : Ok (callN pgA wfA (d + 4) F_read_rows [.str text]) ⟨st, w⟩ P := by
  refine ok_callN (df := d_read_rows) rfl rfl ?_
  obtain ⟨rows, hrows⟩ : ∃ rows, rows = splitT 10 [] text := ⟨_, rfl⟩
  have hm : ∀ x ∈ rows, x.length + 2 ≤ lim := fun x hx => by
    rw [hrows] at hx
    have := splitT_mem hx
    simp at this
    omega
  rw [← hrows] at hr
  obtain ⟨hlen, hr⟩ := hr
  simp only [d_read_rows]
  rw [okt_cons]
  simp [-okt_cons, ok_var, tyIs, ht]
  rw [okt_cons]
  simp [-okt_cons, ok_var, hl, ← hrows]
  rw [okt_cons, okt_asg, ok_comp]
  simp [-okt_cons, ok_var]
  rw [ok_srcV (xs := svs rows) (lkp (k := 0) rfl rfl)]
  refine ⟨rfl, ?_⟩
  rw [srcLen_live (xs := svs rows) (lkp (k := 0) rfl rfl)]
  refine ok_compG firstV (fun i tl => src_live (by rw [List.append_assoc]; exact lkp (k := 0) rfl rfl)) ?_ (by rw [svs_len]; unfold lim; omega) ?_
  · intro v hv tl
    obtain ⟨x, hx, rfl⟩ := List.mem_map.mp hv
    have hx2 := hm x hx
    rw [turn_no rfl]
    obtain ⟨a, r, e⟩ : ∃ a r, splitT 32 [] x = a :: r := List.exists_cons_of_ne_nil splitT_ne
    simp [ok_var, wipeF, tgIx, hx2, e, svs_cons, firstV, firstW, stk]
  · intro tl
    have e1 : (svs rows).filterMap firstV = svs (rows.map firstW) := by
      unfold svs
      rw [List.filterMap_map, List.map_map]
      exact filterMap_some
    rw [e1]
    rw [okt_cons, okt_loop]
    simp [-okt_cons, ok_var]
    show Ok (bnd (look _) _) _ _
    rw [ok_lstR]
    refine ⟨svs rows, lkp (k := 0) rfl rfl, ?_⟩
    rw [ok_ret]
    refine ⟨rfl, ?_⟩
    rw [srcLen_enum (xs := svs rows) (lkp (k := 0) rfl rfl), svs_len]
    have hxl : ((svs rows).mapIdx fun i x => Val.tup [.int i, x]).length = rows.length := by simp [svs_len]
    refine okt_forN (xs := (svs rows).mapIdx fun i x => Val.tup [.int i, x]) (fun i fr s => ∃ x4 x5 x6, fr = [some (.str text), some (.ref (st.length + (2 + tl.length))), some (.ref st.length), some (.ref (st.length + 1)), x4, x5, x6] ∧ s = ⟨st ++ (.lst (svs rows) :: .lst ((rs.take i).map rowV) :: (tl ++ [.lst (svs (rows.map firstW))])), st.length⟩) ?_ ?_ ?_ rows.length 0 _ _ (by rw [hxl]; omega) ⟨none, none, none, by simp; omega, by simp⟩
    · rintro i fr s ⟨x4, x5, x6, rfl, rfl⟩
      exact src_enum (lkp (k := 0) rfl rfl)
    · rintro i v fr s hv ⟨x4, x5, x6, rfl, rfl⟩
      have hi : i < rows.length := by have := (List.getElem?_eq_some_iff.mp hv).1; rwa [hxl] at this
      obtain ⟨row, hrow⟩ : ∃ row, rows[i]? = some row := ⟨_, List.getElem?_eq_getElem hi⟩
      obtain ⟨r, hr'⟩ : ∃ r, rs[i]? = some r := ⟨_, List.getElem?_eq_getElem (by omega)⟩
      have hmr := hm row (List.mem_of_getElem? hrow)
      rw [List.getElem?_mapIdx] at hv
      simp [svs, hrow] at hv
      subst hv
      refine ⟨_, rfl, ?_⟩
      rw [okt_cons]
      simp [-okt_cons, ok_var]
      rw [if_pos (by omega)]
      refine read_row_ok (firsts := rows.map firstW) (lkp (k := 2 + tl.length) rfl ?_) hmr ?_
      · rw [show 2 + tl.length = tl.length + 1 + 1 by omega]
        simp
      · rw [hr i r row hr' hrow]
        simp [-okt_cons, rowO]
        rw [okt_cons]
        simp [-okt_cons, ok_var, rowV]
        rw [okt_cons]
        simp [ok_var, stk]
        refine ⟨rfl, by unfold lim; omega, ?_⟩
        rw [List.take_add_one, List.getElem?_map, hr']
        rfl
    · rintro fr s ⟨x4, x5, x6, rfl, rfl⟩
      simp [ok_var]
      refine lvN (Nat.le_refl _) (k := 1) (o := .lst (rs.map rowV)) ?_ (noRefs_flat (flats_map fun x _ => flat_rowV)) q
      rw [List.take_of_length_le (by simp [svs_len]; omega)]
      rfl
end PI.MX
end

section
set_option Elab.async false
set_option linter.all false
set_option maxRecDepth 100000
/-! PyT4: the text of a row, sites. -/
namespace PI.MX
def rowWords (r : Row) : List Tx := [r.nm, numT r.lm] ++ (if r.sy then [stayT] else []) ++ (if r.wy.isEmpty then [] else arrowT :: r.wy.flatMap fun x => [x.1, numT x.2])
def rowTx (r : Row) : Tx := joinT [32] (rowWords r)
structure OkRow (r : Row) : Prop where
  nm : r.nm.length ≤ 8
  lm : 0 ≤ r.lm ∧ r.lm ≤ 99
  wn : r.wy.length ≤ 6
  wy : ∀ x ∈ r.wy, x.1.length ≤ 8 ∧ 0 ≤ x.2 ∧ x.2 ≤ 99
theorem num_len {i : Int} (h : 0 ≤ i ∧ i ≤ 99) : (numT i).length ≤ 2 := by
  have k : ∀ n : Fin 100, (numT (n.val : Int)).length ≤ 2 := by decide +kernel
  have := k ⟨i.toNat, by omega⟩
  simp only at this
  rwa [show ((i.toNat : Nat) : Int) = i by omega] at this
theorem num_log {i : Int} (h : 0 ≤ i ∧ i ≤ 99) : i.natAbs.log2 < 1920 := by
  have k : ∀ n : Fin 100, n.val.log2 < 1920 := by decide +kernel
  have := k ⟨i.natAbs, by omega⟩
  exact this
theorem num_ok {i : Int} (h : 0 ≤ i ∧ i ≤ 99) : (decide (i.natAbs.log2 < 1920) && decide ((numT i).length ≤ lim)) = true := by
  have := num_len h
  rw [decide_eq_true (num_log h), decide_eq_true (by unfold lim; omega)]
  rfl
theorem ok_eqNilT {g : G} {s : S} {PB : Bool → S → Prop} {xs : List Val} (hf : flat.flats xs = true) (hd : dep.deps xs ≤ 50) : Ok (cmpv g .eq (.tup xs) (.tup [])) s PB ↔ PB xs.isEmpty s := by
  rw [ok_eq (x := .tup xs) (y := .tup []) rfl (deep_flat (by simpa [flat] using hf) (by simp only [dep]; omega)) rfl]
  cases xs <;> simp [veq, veqs]
def wayWords (ws : List (Tx × Int)) : List Tx := ws.flatMap fun x => [x.1, numT x.2]
theorem wayWords_len {ws : List (Tx × Int)} : (wayWords ws).length = 2 * ws.length := by
  induction ws with
  | nil => rfl
  | cons x r ih => simp only [wayWords, List.flatMap_cons, List.length_append, List.length_cons, List.length_nil] at ih ⊢; omega
theorem wayWords_mem {ws : List (Tx × Int)} (h : ∀ x ∈ ws, x.1.length ≤ 8 ∧ 0 ≤ x.2 ∧ x.2 ≤ 99) : ∀ t ∈ wayWords ws, t.length ≤ 8 := by
  intro t ht
  obtain ⟨x, hx, ht⟩ := List.mem_flatMap.mp ht
  have h2 := num_len (h x hx).2
  rcases List.mem_cons.mp ht with rfl | ht
  · exact (h x hx).1
  · rcases List.mem_cons.mp ht with rfl | ht
    · omega
    · cases ht
theorem sum_le {xs : List Tx} {k : Nat} (h : ∀ t ∈ xs, t.length ≤ k) : (xs.map (·.length)).sum ≤ xs.length * k := by
  induction xs with
  | nil => exact Nat.zero_le _
  | cons x r ih =>
    have h1 := h x (List.mem_cons_self ..)
    have h2 := ih fun t ht => h t (List.mem_cons_of_mem _ ht)
    simp only [List.map_cons, List.sum_cons, List.length_cons, Nat.add_mul]
    omega
theorem rowWords_len {r : Row} (h : OkRow r) : (rowWords r).length ≤ 16 := by
  have h1 := h.wn
  have h2 := wayWords_len (ws := r.wy)
  unfold wayWords at h2
  unfold rowWords
  cases r.sy <;> cases r.wy.isEmpty <;> simp only [List.length_append, List.length_cons, List.length_nil, if_true, if_false, Bool.false_eq_true] <;> omega
theorem rowWords_mem {r : Row} (h : OkRow r) : ∀ t ∈ rowWords r, t.length ≤ 8 := by
  intro t ht
  have hn := num_len h.lm
  have hm := wayWords_mem h.wy
  have e := h.nm
  unfold rowWords at ht
  rw [List.mem_append, List.mem_append] at ht
  rcases ht with (ht | ht) | ht
  · rcases List.mem_cons.mp ht with rfl | ht
    · exact e
    · rcases List.mem_cons.mp ht with rfl | ht
      · omega
      · cases ht
  · split at ht
    · rw [List.mem_singleton.mp ht]; decide
    · cases ht
  · split at ht
    · cases ht
    · rcases List.mem_cons.mp ht with rfl | ht
      · decide
      · exact hm t ht
theorem rowWords_join {r : Row} (h : OkRow r) : ((rowWords r).map (·.length)).sum + (rowWords r).length * ([32] : Tx).length ≤ lim := by
  have h1 := sum_le (rowWords_mem h)
  have h2 := rowWords_len h
  have : ((rowWords r).map (·.length)).sum ≤ 16 * 8 := Nat.le_trans h1 (Nat.mul_le_mul_right _ h2)
  simp only [List.length_cons, List.length_nil]
  unfold lim
  omega
theorem written_tail {d w i : Nat} {st tl : List Ob} {W : List Tx} {wy : List (Tx × Int)} {P : Val → S → Prop} {v0 v2 v3 v4 v6 v7 : Option Val} {N : Fr → S → Prop} (hi : tl[i]? = some (.lst (svs W)))
    (hw : ∀ x ∈ wy, 0 ≤ x.2 ∧ x.2 ≤ 99) (hl : W.length + 2 * wy.length ≤ 20)
    (hj : ((W ++ (if wy.isEmpty then [] else arrowT :: wayWords wy)).map (·.length)).sum + (W ++ (if wy.isEmpty then [] else arrowT :: wayWords wy)).length * ([32] : Tx).length ≤ lim)
    (q : P (.str (joinT [32] (W ++ (if wy.isEmpty then [] else arrowT :: wayWords wy)))) ⟨st, w⟩) :
    OkT (exTs ⟨callN pgA wfA d, pgA, none, wfA⟩ (drp 2 d_written.body) [v0, some (.ref (st.length + i)), v2, v3, v4, some (waysV wy), v6, v7] ⟨st ++ tl, st.length⟩) N (fun v s2 => Ok (leave st.length w v) s2 P) := by
  have fw : flat.flats (wy.map wayV) = true := flats_map fun x _ => flat_wayV
  have dw : dep.deps (wy.map wayV) ≤ 50 := deps_map fun x _ => by simp [wayV, dep, dep.deps]
  have hi0 : (st ++ tl)[st.length + i]? = some (.lst (svs W)) := by rw [stk]; exact hi
  have hil : i < tl.length := (List.getElem?_eq_some_iff.mp hi).1
  simp only [drp, d_written]
  rw [okt_cons]
  simp [-okt_cons, ok_var, waysV]
  rw [ok_eqNilT fw dw]
  by_cases hem : wy = []
  · subst hem
    simp [ok_var, hi0]
    simp at q hj
    exact ⟨hj, lv (Nat.le_refl _) rfl q⟩
  · have e1 : (wy.map wayV).isEmpty = false := by simpa using hem
    have e2 : wy.isEmpty = false := by simpa using hem
    rw [e1]
    rw [e2] at q hj
    simp only [Bool.not_false, if_true, if_false, Bool.false_eq_true] at q hj ⊢
    rw [okt_cons]
    simp [-okt_cons, ok_var, hi0]
    refine ⟨rfl, by rw [svs_len]; unfold lim; omega, ?_⟩
    rw [okt_cons, okt_loop]
    simp [-okt_cons, ok_var]
    refine ⟨rfl, ?_⟩
    show OkT (forN _ _ _ (wy.map wayV).length _ _ _) _ _
    have sv : ∀ ts, svs W ++ .str arrowT :: svs ts = svs (W ++ arrowT :: ts) := fun ts => by simp [svs]
    refine okt_forN (xs := wy.map wayV) (fun j fr s => ∃ x6 x7 tl2, fr = [v0, some (.ref (st.length + i)), v2, v3, v4, some (.tup (wy.map wayV)), x6, x7] ∧ s = ⟨st ++ (tl.set i (.lst (svs (W ++ arrowT :: wayWords (wy.take j)))) ++ tl2), st.length⟩) (fun i fr s _ => src_items) ?_ ?_ _ 0 _ _ (by simp) ⟨v6, v7, [], rfl, by rw [List.append_nil, ← sv]; rfl⟩
    · rintro j v fr s hv ⟨x6, x7, tl2, rfl, rfl⟩
      rw [List.getElem?_map] at hv
      obtain ⟨x, hx, rfl⟩ := Option.map_eq_some_iff.mp hv
      refine ⟨_, rfl, ?_⟩
      have n1 := num_ok (hw x (List.mem_of_getElem? hx))
      simp only [Bool.and_eq_true, decide_eq_true_eq] at n1
      have hj2 := (List.getElem?_eq_some_iff.mp hx).1
      have e : wayWords (wy.take (j + 1)) = wayWords (wy.take j) ++ [x.1, numT x.2] := by
        rw [List.take_add_one, hx]
        simp [wayWords]
      have hl2 := wayWords_len (ws := wy.take j)
      rw [List.length_take] at hl2
      rw [okt_cons]
      simp [ok_var, n1]
      have g1 : (st ++ (tl.set i (.lst (svs (W ++ arrowT :: wayWords (wy.take j)))) ++ (tl2 ++ [Ob.lst [.str x.1, .str (numT x.2)]])))[st.length + i]? = some (.lst (svs (W ++ arrowT :: wayWords (wy.take j)))) := by
        rw [stk]
        exact sto (by rw [List.getElem?_set_self hil])
      have g2 : (st ++ (tl.set i (.lst (svs (W ++ arrowT :: wayWords (wy.take j)))) ++ (tl2 ++ [Ob.lst [.str x.1, .str (numT x.2)]])))[st.length + (tl.length + tl2.length)]? = some (.lst [.str x.1, .str (numT x.2)]) := by
        rw [stk]
        simp
      simp [g1, g2]
      refine ⟨by decide, by omega, by rw [svs_len]; simp; unfold lim; omega, tl2 ++ [Ob.lst [.str x.1, .str (numT x.2)]], ?_⟩
      rw [List.set_append_left _ _ (by simpa using hil), List.set_set, e]
      simp [svs]
    · rintro fr s ⟨x6, x7, tl2, rfl, rfl⟩
      rw [okt_cons]
      simp [ok_var]
      have g1 : (st ++ (tl.set i (.lst (svs (W ++ arrowT :: wayWords wy))) ++ tl2))[st.length + i]? = some (.lst (svs (W ++ arrowT :: wayWords wy))) := by
        rw [stk]
        exact sto (by rw [List.getElem?_set_self hil])
      simp [g1]
      simp at hj
      exact ⟨hj, lv (Nat.le_refl _) rfl q⟩
theorem stkk {α : Type} {a b : List α} {k l : Nat} : (a ++ b)[a.length + k + l]? = b[k + l]? := by rw [Nat.add_assoc, stk]
theorem written_ok {d w : Nat} {st : List Ob} {r : Row} {P : Val → S → Prop} (h : OkRow r) (q : P (.str (rowTx r)) ⟨st, w⟩) : Ok (callN pgA wfA (d + 1) F_written [rowV r]) ⟨st, w⟩ P := by
  refine ok_callN (df := d_written) rfl rfl ?_
  obtain ⟨nm, lm, sy, wy⟩ := r
  have fw : flat.flats (wy.map wayV) = true := flats_map fun x _ => flat_wayV
  have dw : dep.deps (wy.map wayV) ≤ 50 := deps_map fun x _ => by simp [wayV, dep, dep.deps]
  have hj := rowWords_join h
  simp only [d_written, rowV]
  rw [okt_cons, okt_asgT]
  simp [-okt_cons, ok_var, putAll, waysV]
  rw [okt_cons]
  have n1 := num_ok h.lm
  simp only [Bool.and_eq_true, decide_eq_true_eq] at n1
  have hw2 : ∀ x ∈ wy, 0 ≤ x.2 ∧ x.2 ≤ 99 := fun x m => (h.wy x m).2
  have hwn := h.wn
  simp only at hwn
  have two : 2 ≤ lim := by decide
  cases sy with
  | false =>
    simp [-okt_cons, ok_var, n1, stk, Nat.add_assoc, repl]
    refine ⟨by decide, by decide, by decide, ?_⟩
    refine written_tail (i := 3) (W := [nm, numT lm]) rfl hw2 (by simp; omega) ?_ ?_
    · simpa [rowWords, wayWords] using hj
    · simpa [rowTx, rowWords, wayWords] using q
  | true =>
    simp [-okt_cons, ok_var, n1, stk, Nat.add_assoc, repl]
    refine ⟨by decide, by decide, by decide, ?_⟩
    refine written_tail (i := 3) (W := [nm, numT lm, stayT]) rfl hw2 (by simp; omega) ?_ ?_
    · simpa [rowWords, wayWords] using hj
    · simpa [rowTx, rowWords, wayWords] using q
end PI.MX
end

section
set_option Elab.async false
set_option linter.all false
set_option maxRecDepth 100000
/-! PyT5: sites. -/
namespace PI.MX
theorem joinT_len {s : Tx} : ∀ {xs : List Tx}, (joinT s xs).length ≤ (xs.map (·.length)).sum + xs.length * s.length
  | [] => by simp [joinT]
  | [x] => by simp [joinT]
  | x :: y :: r => by
    have := joinT_len (s := s) (xs := y :: r)
    simp only [joinT, List.length_append, List.map_cons, List.sum_cons, List.length_cons, Nat.add_mul] at this ⊢
    omega
theorem rowTx_len {r : Row} (h : OkRow r) : (rowTx r).length ≤ 144 := by
  have h1 := sum_le (rowWords_mem h)
  have h2 := rowWords_len h
  have h3 := joinT_len (s := [32]) (xs := rowWords r)
  simp only [List.length_cons, List.length_nil] at h3
  unfold rowTx
  omega
def textTx (rs : List Row) : Tx := joinT [10] (rs.map rowTx)
structure OkRows (rs : List Row) : Prop where
  len : rs.length ≤ 6
  row : ∀ r ∈ rs, OkRow r
theorem rows_join {rs : List Row} (h : OkRows rs) : ((rs.map rowTx).map (·.length)).sum + (rs.map rowTx).length * ([10] : Tx).length ≤ 1000 := by
  have h1 := sum_le (xs := rs.map rowTx) (k := 144) fun t ht => by
    obtain ⟨r, hr, rfl⟩ := List.mem_map.mp ht
    exact rowTx_len (h.row r hr)
  have h2 := h.len
  rw [List.length_map] at h1 ⊢
  simp only [List.length_cons, List.length_nil]
  omega
theorem textTx_len {rs : List Row} (h : OkRows rs) : (textTx rs).length ≤ 1000 := by
  have h1 := rows_join h
  have h2 := joinT_len (s := [10]) (xs := rs.map rowTx)
  unfold textTx
  omega
def namesV (rs : List Row) : Val := .tup (rs.map fun r => .str r.nm)
def limitsV (rs : List Row) : Val := .tup (rs.map fun r => .int r.lm)
def staysV (rs : List Row) : Val := .tup (rs.map fun r => .bl r.sy)
def wayssV (rs : List Row) : Val := .tup (rs.map fun r => waysV r.wy)
def siteOb (rs : List Row) : Ob := .ins C_Site [("text", .str (textTx rs)), ("names", namesV rs), ("limits", limitsV rs), ("stays", staysV rs), ("ways", wayssV rs)]
theorem hasRefs_put {f : PySem.Str} {v : Val} (hv : hasRef v = false) : ∀ {fs : List (PySem.Str × Val)}, hasRefs (fs.map (·.2)) = false → hasRefs ((putF f v fs).map (·.2)) = false
  | [], _ => by simp [putF, hasRefs, hv]
  | (g, u) :: r, h => by
    simp only [List.map_cons, hasRefs, Bool.or_eq_false_iff] at h
    unfold putF
    split
    · simp [hasRefs, hv, h.2]
    · simp only [List.map_cons, hasRefs, Bool.or_eq_false_iff]
      exact ⟨h.1, hasRefs_put hv h.2⟩
/-- a field is given to a known object -/
theorem fld_step {g : G} {fr : Fr} {e : E} {f : PySem.Str} {st : List Ob} {sf n c : Nat} {fs : List (PySem.Str × Val)} {tl : List Ob} {N : Fr → S → Prop} {Rt : Val → S → Prop} (hs : sf < st.length) (hv0 : fr[0]? = some (some (.ref sf)))
    (hf : hasRefs (fs.map (·.2)) = false) (hc : (decide (fs.length < 1000) && ((g.pg.cs c).any fun k => k.flds.contains f)) = true)
    (h : Ok (ev g fr e) ⟨st.set sf (.ins c fs) ++ tl, n⟩ fun v s2 => ∃ tl2, s2 = ⟨st.set sf (.ins c fs) ++ tl2, n⟩ ∧ hasRef v = false ∧ N fr ⟨st.set sf (.ins c (putF f v fs)) ++ tl2, n⟩) :
    OkT (exT g (.fld (.var 0) f e) fr ⟨st.set sf (.ins c fs) ++ tl, n⟩) N Rt := by
  rw [okt_fld]
  refine ok_mono h ?_
  rintro v s2 ⟨tl2, rfl, hv, q⟩
  rw [ok_var hv0, ok_setFld]
  refine ⟨c, fs, sto (by rw [List.getElem?_set_self hs]), hc, ?_⟩
  have e1 : obRef (.ins c (putF f v fs)) = false := hasRefs_put hv hf
  rw [e1]
  simp only [Bool.false_eq_true, if_false]
  rw [List.set_append_left _ _ (by simpa using hs), List.set_set]
  exact q
theorem putF_len {f : PySem.Str} {v : Val} : ∀ {fs : List (PySem.Str × Val)} {n : Nat}, fs.length < n → (putF f v fs).length < n + 1
  | [], n, h => by simp [putF]; omega
  | (g, u) :: r, n, h => by
    unfold putF
    split
    · simp at h ⊢; omega
    · have := putF_len (f := f) (v := v) (fs := r) (n := n - 1) (by simp at h; omega)
      simp at h ⊢
      omega
theorem site_init_ok {d w sf r : Nat} {st : List Ob} {rs : List Row} {P : Val → S → Prop} (h1 : st[sf]? = some (.ins C_Site [])) (h2 : st[r]? = some (.lst (rs.map rowV))) (hk : OkRows rs)
    (q : P .non ⟨st.set sf (siteOb rs), w⟩) : Ok (callN pgA wfA (d + 2) F_Site___init__ [.ref sf, .ref r]) ⟨st, w⟩ P := by
  refine ok_callN (df := d_Site___init__) rfl rfl ?_
  have hs : sf < st.length := (List.getElem?_eq_some_iff.mp h1).1
  have hne : sf ≠ r := fun e => by rw [← e, h1] at h2; cases h2
  have gr : ∀ o tl, (st.set sf o ++ tl)[r]? = some (.lst (rs.map rowV)) := fun o tl => sto (by rw [List.getElem?_set_ne hne]; exact h2)
  have gs : ∀ o tl, (st.set sf o ++ tl)[sf]? = some o := fun o tl => sto (by rw [List.getElem?_set_self hs])
  have ss : ∀ o o2 tl, (st.set sf o ++ tl).set sf o2 = st.set sf o2 ++ tl := fun o o2 tl => by rw [List.set_append_left _ _ (by simpa using hs), List.set_set]
  have e0 : st = st.set sf (.ins C_Site []) ++ [] := by
    rw [List.append_nil]
    rw [List.getElem?_eq_getElem hs] at h1
    rw [← Option.some.inj h1]
    exact (List.set_getElem_self hs).symm
  have hl : rs.length ≤ lim := by have := hk.len; unfold lim; omega
  have hj := rows_join hk
  have fc : ∀ (j : Int) (F : Row → Val) (o : Ob) (tl : List Ob) (Q : Val → S → Prop), (∀ r, atI [.str r.nm, .int r.lm, .bl r.sy, waysV r.wy] j = some (F r)) → Q (.ref (st.length + tl.length)) ⟨st.set sf o ++ (tl ++ [.lst (rs.map F)]), st.length⟩ →
      Ok (ev ⟨callN pgA wfA (d + 1), pgA, none, wfA⟩ [some (.ref sf), some (.ref r), none] (.comp (.idx (.var 2) (.k (.int j))) (.var 2) .seq (Es.cons (.var 1) Es.nil) E.no)) ⟨st.set sf o ++ tl, st.length⟩ Q := fun j F o tl Q ha q => by
    refine ok_compLive (items := rs) (f := rowV) (F := F) (fun x => [some (.ref sf), some (.ref r), some (rowV x)]) (fun P => ok_var rfl) (gr o tl) hl (fun a => rfl) (fun a _ => ?_) ?_
    · simp [ok_var, rowV, ha]
    · rw [List.length_append, List.length_set, List.append_assoc]
      exact q
  have fw : ∀ (o : Ob) (tl : List Ob) (Q : Val → S → Prop), Q (.ref (st.length + tl.length)) ⟨st.set sf o ++ (tl ++ [.lst (rs.map fun r => .str (rowTx r))]), st.length⟩ →
      Ok (ev ⟨callN pgA wfA (d + 1), pgA, none, wfA⟩ [some (.ref sf), some (.ref r), none] (.comp (.call F_written (Es.cons (.var 2) Es.nil)) (.var 2) .seq (Es.cons (.var 1) Es.nil) E.no)) ⟨st.set sf o ++ tl, st.length⟩ Q := fun o tl Q q => by
    refine ok_compLive (items := rs) (f := rowV) (F := fun r => .str (rowTx r)) (fun x => [some (.ref sf), some (.ref r), some (rowV x)]) (fun P => ok_var rfl) (gr o tl) hl (fun a => rfl) (fun a ha => ?_) ?_
    · simp [ok_var]
      exact written_ok (hk.row a ha) ⟨rfl, rfl⟩
    · rw [List.length_append, List.length_set, List.append_assoc]
      exact q
  simp only [d_Site___init__]
  have hj2 : ((rs.map rowTx).map (·.length)).sum + (rs.map rowTx).length * ([10] : Tx).length ≤ lim := by
    unfold lim
    omega
  have hst : strsOf (rs.map fun r => Val.str (rowTx r)) = some (rs.map rowTx) := by
    have := strsOf_strs (xs := rs.map rowTx)
    unfold svs at this
    rw [List.map_map] at this
    exact this
  have hfl : ∀ f ∈ (["text", "names", "limits", "stays", "ways"] : List PySem.Str), ((pgA.cs C_Site).any fun k => k.flds.contains f) = true := by decide +kernel
  have hc : ∀ f ∈ (["text", "names", "limits", "stays", "ways"] : List PySem.Str), ∀ n, n < 1000 → (decide (n < 1000) && ((pgA.cs C_Site).any fun k => k.flds.contains f)) = true := fun f hf n hn => by
    rw [hfl f hf, decide_eq_true hn]
    rfl
  have ht : ∀ F : Row → Val, (∀ r, flat (F r) = true) → hasRef (.tup (rs.map F)) = false := fun F h => by
    simp only [hasRef]
    exact noRefs_flat (flats_map fun r _ => h r)
  have tf : ∀ (f : PySem.Str) (j : Int) (F : Row → Val) (fs : List (PySem.Str × Val)) (tl : List Ob) (N : Fr → S → Prop) (Rt : Val → S → Prop), f ∈ (["text", "names", "limits", "stays", "ways"] : List PySem.Str) → (∀ r, atI [.str r.nm, .int r.lm, .bl r.sy, waysV r.wy] j = some (F r)) → (∀ r, flat (F r) = true) → hasRefs (fs.map (·.2)) = false → fs.length < 1000 →
      (∀ tl2, N [some (.ref sf), some (.ref r), none] ⟨st.set sf (.ins C_Site (putF f (.tup (rs.map F)) fs)) ++ tl2, st.length⟩) →
      OkT (exT ⟨callN pgA wfA (d + 1), pgA, none, wfA⟩ (.fld (.var 0) f (.bf .tuple (Es.cons (.comp (.idx (.var 2) (.k (.int j))) (.var 2) .seq (Es.cons (.var 1) Es.nil) E.no) Es.nil))) [some (.ref sf), some (.ref r), none] ⟨st.set sf (.ins C_Site fs) ++ tl, st.length⟩) N Rt := fun f j F fs tl N Rt hf ha hF hr hn q => by
    refine fld_step hs rfl hr (hc f hf _ hn) ?_
    rw [ok_bf, ok_cons]
    refine fc j F _ _ _ ha ?_
    rw [ok_nil, ok_tupR]
    refine ⟨_, by rw [show st.length + tl.length = (st.set sf (.ins C_Site fs)).length + tl.length by simp, stk, List.getElem?_append_right (Nat.le_refl _), Nat.sub_self]; rfl, _, rfl, ?_, q _⟩
    simp only [hasRef]
    exact noRefs_flat (flats_map fun r _ => hF r)
  have fin : OkT (exTs ⟨callN pgA wfA (d + 1), pgA, none, wfA⟩ d_Site___init__.body [some (.ref sf), some (.ref r), none] ⟨st.set sf (.ins C_Site []) ++ [], st.length⟩) (fun _ s2 => Ok (leave st.length w .non) s2 P) (fun v s2 => Ok (leave st.length w v) s2 P) := by
    simp only [d_Site___init__]
    rw [okt_cons]
    refine fld_step hs rfl rfl (hc _ (by simp) _ (by decide)) ?_
    rw [ok_bm, ok_k, ok_bmChkS, ok_cons]
    refine ⟨rfl, fw _ _ _ ?_⟩
    rw [ok_nil, ok_joinR]
    refine ⟨_, by rw [show st.length + ([] : List Ob).length = (st.set sf (.ins C_Site [])).length + 0 by simp, stk]; rfl, rs.map rowTx, hst, decide_eq_true hj2, _, rfl, rfl, ?_⟩
    rw [okt_cons]
    refine tf _ 0 (fun r => .str r.nm) _ _ _ _ (by simp) (fun r => by simp) (fun r => rfl) rfl (Nat.lt_trans (putF_len (n := 1) (by decide : ([] : List (PySem.Str × Val)).length < 1)) (by decide)) fun tl1 => ?_
    rw [okt_cons]
    refine tf _ 1 (fun r => .int r.lm) _ _ _ _ (by simp) (fun r => by simp) (fun r => rfl) ?_ (Nat.lt_trans (putF_len (n := 2) (putF_len (n := 1) (by decide : ([] : List (PySem.Str × Val)).length < 1))) (by decide)) fun tl2 => ?_
    · exact hasRefs_put (ht _ fun _ => rfl) (hasRefs_put rfl rfl)
    rw [okt_cons]
    refine tf _ 2 (fun r => .bl r.sy) _ _ _ _ (by simp) (fun r => by simp) (fun r => rfl) ?_ (Nat.lt_trans (putF_len (n := 3) (putF_len (n := 2) (putF_len (n := 1) (by decide : ([] : List (PySem.Str × Val)).length < 1)))) (by decide)) fun tl3 => ?_
    · exact hasRefs_put (ht _ fun _ => rfl) (hasRefs_put (ht _ fun _ => rfl) (hasRefs_put rfl rfl))
    rw [okt_cons]
    refine tf _ 3 (fun r => waysV r.wy) _ _ _ _ (by simp) (fun r => by simp) (fun r => flat_waysV) ?_ (Nat.lt_trans (putF_len (n := 4) (putF_len (n := 3) (putF_len (n := 2) (putF_len (n := 1) (by decide : ([] : List (PySem.Str × Val)).length < 1))))) (by decide)) fun tl4 => ?_
    · exact hasRefs_put (ht _ fun _ => rfl) (hasRefs_put (ht _ fun _ => rfl) (hasRefs_put (ht _ fun _ => rfl) (hasRefs_put rfl rfl)))
    rw [okt_nil]
    refine (ok_leave (Nat.le_refl _) rfl).mpr ?_
    rw [List.take_left' (by simp)]
    exact q
  rw [← e0] at fin
  exact fin
end PI.MX
end

section
set_option Elab.async false
set_option linter.all false
set_option maxRecDepth 100000
/-! PyT6: what is written is read again. -/
namespace PI.MX
theorem joinT_cons2 {s x y : Tx} {r : List Tx} : joinT s (x :: y :: r) = x ++ s ++ joinT s (y :: r) := rfl
theorem splitT_app {c : Nat} : ∀ {x acc r : Tx}, c ∉ x → splitT c acc (x ++ r) = splitT c (acc ++ x) r
  | [], acc, r, _ => by simp
  | y :: x, acc, r, h => by
    have h1 : y ≠ c := fun e => h (e ▸ List.mem_cons_self ..)
    have h2 : c ∉ x := fun m => h (List.mem_cons_of_mem _ m)
    rw [List.cons_append, splitT, if_neg h1, splitT_app h2]
    simp
theorem splitT_join {c : Nat} : ∀ {xs : List Tx}, xs ≠ [] → (∀ x ∈ xs, c ∉ x) → splitT c [] (joinT [c] xs) = xs
  | [], h, _ => absurd rfl h
  | [x], _, h => by
    have := splitT_app (acc := []) (r := []) (h x (List.mem_cons_self ..))
    simp only [List.append_nil, List.nil_append] at this
    rw [joinT, this]
    rfl
  | x :: y :: r, _, h => by
    rw [joinT_cons2, List.append_assoc, splitT_app (h x (List.mem_cons_self ..)), List.nil_append, List.singleton_append, splitT, if_pos rfl,
      splitT_join (xs := y :: r) (by simp) fun z m => h z (List.mem_cons_of_mem _ m)]
theorem mem_joinT {s : Tx} {c : Nat} : ∀ {xs : List Tx}, c ∈ joinT s xs → c ∈ s ∨ ∃ x ∈ xs, c ∈ x
  | [], h => by simp [joinT] at h
  | [x], h => .inr ⟨x, List.mem_cons_self .., h⟩
  | x :: y :: r, h => by
    rw [joinT_cons2] at h
    rcases List.mem_append.mp h with h | h
    · rcases List.mem_append.mp h with h | h
      · exact .inr ⟨x, List.mem_cons_self .., h⟩
      · exact .inl h
    · rcases mem_joinT h with h | ⟨z, hz, h⟩
      · exact .inl h
      · exact .inr ⟨z, List.mem_cons_of_mem _ hz, h⟩
structure GoodRow (names : List Tx) (r : Row) : Prop where
  nm : isNameB r.nm = true
  lm : 0 ≤ r.lm ∧ r.lm ≤ 9
  sy : r.sy = true ∨ r.wy ≠ []
  wy : ∀ x ∈ r.wy, isNameB x.1 = true ∧ x.1 ≠ r.nm ∧ x.1 ∈ names ∧ 1 ≤ x.2 ∧ x.2 ≤ 3
  up : (r.wy.map (·.1)).Pairwise (· < ·)
structure GoodRows (rs : List Row) : Prop where
  ne : rs ≠ []
  len : rs.length ≤ 6
  row : ∀ r ∈ rs, GoodRow (rs.map (·.nm)) r
  nd : (rs.map (·.nm)).Nodup
theorem numT_dig {i : Int} (h : 0 ≤ i ∧ i ≤ 9) : numT i = [i.toNat + 48] := by
  have k : ∀ n : Fin 10, numT (n.val : Int) = [n.val + 48] := by decide +kernel
  have := k ⟨i.toNat, by omega⟩
  simp only at this
  rwa [show ((i.toNat : Nat) : Int) = i by omega] at this
theorem figB_dig {i lo hi : Int} (h : 0 ≤ i ∧ i ≤ 9) (h1 : lo ≤ i) (h2 : i ≤ hi) : figB (numT i) lo hi = some i := by
  rw [numT_dig h]
  simp only [figB]
  rw [if_pos (by omega)]
  congr 1
  omega
theorem name_mem {x : Tx} (h : isNameB x = true) : (∀ c ∈ x, c ∈ abcT) ∧ 1 ≤ x.length ∧ x.length ≤ 8 := by
  unfold isNameB at h
  simp only [Bool.and_eq_true, decide_eq_true_eq, List.all_eq_true] at h
  exact ⟨h.2, h.1.1, h.1.2⟩
theorem name_no {x : Tx} (h : isNameB x = true) : 32 ∉ x ∧ 10 ∉ x := by
  have := (name_mem h).1
  exact ⟨fun m => absurd (this _ m) (by decide), fun m => absurd (this _ m) (by decide)⟩
theorem dig_no {i : Int} (h : 0 ≤ i ∧ i ≤ 9) : 32 ∉ numT i ∧ 10 ∉ numT i := by
  rw [numT_dig h]
  simp
theorem words_no {names : List Tx} {r : Row} (h : GoodRow names r) : ∀ t ∈ rowWords r, 32 ∉ t ∧ 10 ∉ t := by
  intro t ht
  unfold rowWords at ht
  rw [List.mem_append, List.mem_append] at ht
  rcases ht with (ht | ht) | ht
  · rcases List.mem_cons.mp ht with rfl | ht
    · exact name_no h.nm
    · rcases List.mem_cons.mp ht with rfl | ht
      · exact dig_no h.lm
      · cases ht
  · split at ht
    · rw [List.mem_singleton.mp ht]; decide
    · cases ht
  · split at ht
    · cases ht
    · rcases List.mem_cons.mp ht with rfl | ht
      · decide
      · obtain ⟨x, hx, ht⟩ := List.mem_flatMap.mp ht
        have hw := h.wy x hx
        rcases List.mem_cons.mp ht with rfl | ht
        · exact name_no hw.1
        · rcases List.mem_cons.mp ht with rfl | ht
          · exact dig_no (by omega)
          · cases ht
theorem split_row {names : List Tx} {r : Row} (h : GoodRow names r) : splitT 32 [] (rowTx r) = rowWords r := splitT_join (by simp [rowWords]) fun t ht => (words_no h t ht).1
theorem row_no10 {names : List Tx} {r : Row} (h : GoodRow names r) : 10 ∉ rowTx r := fun m => by
  rcases mem_joinT m with m | ⟨t, ht, m⟩
  · exact absurd m (by decide)
  · exact (words_no h t ht).2 m
theorem split_text {rs : List Row} (h : GoodRows rs) : splitT 10 [] (textTx rs) = rs.map rowTx := splitT_join (by simpa using h.ne) fun t ht => by
  obtain ⟨r, hr, rfl⟩ := List.mem_map.mp ht
  exact row_no10 (h.row r hr)
theorem first_row {names : List Tx} {r : Row} (h : GoodRow names r) : firstW (rowTx r) = r.nm := by
  unfold firstW
  rw [split_row h]
  simp [rowWords]
theorem rwGo_ok {nm : Tx} {names : List Tx} : ∀ {ws acc : List (Tx × Int)}, (∀ x ∈ ws, isNameB x.1 = true ∧ x.1 ≠ nm ∧ x.1 ∈ names ∧ 1 ≤ x.2 ∧ x.2 ≤ 3) → ((acc ++ ws).map (·.1)).Pairwise (· < ·) → rwGo nm names (wayWords ws) acc = some (acc ++ ws)
  | [], acc, _, _ => by simp [wayWords, rwGo]
  | x :: r, acc, h, hp => by
    have hx := h x (List.mem_cons_self ..)
    have e : wayWords (x :: r) = x.1 :: numT x.2 :: wayWords r := by simp [wayWords]
    have hl : lastOk acc x.1 = true := by
      unfold lastOk
      cases q : acc.getLast? with
      | none => rfl
      | some z =>
        have hz := List.mem_of_getLast? q
        rw [List.map_append, List.pairwise_append] at hp
        exact decide_eq_true (hp.2.2 z.1 (List.mem_map_of_mem hz) x.1 (by simp))
    rw [e, rwGo, figB_dig (by omega) hx.2.2.2.1 hx.2.2.2.2]
    simp only
    rw [if_pos (by simp [hx.1, hx.2.1, hx.2.2.1, hl]), rwGo_ok (fun y m => h y (List.mem_cons_of_mem _ m)) (by simpa using hp)]
    simp
theorem rwB_ok {nm : Tx} {names : List Tx} {ws : List (Tx × Int)} (hn : ws ≠ []) (h : ∀ x ∈ ws, isNameB x.1 = true ∧ x.1 ≠ nm ∧ x.1 ∈ names ∧ 1 ≤ x.2 ∧ x.2 ≤ 3) (hp : (ws.map (·.1)).Pairwise (· < ·)) : rwB (wayWords ws) nm names = some ws := by
  unfold rwB
  have := wayWords_len (ws := ws)
  rw [if_neg, rwGo_ok h (by simpa using hp)]
  · simp
  · rintro (e | e)
    · rw [e] at this
      cases ws
      · exact hn rfl
      · simp at this
    · omega
theorem rowW_ok {names : List Tx} {r : Row} {i : Nat} (h : GoodRow names r) (hi : (names.take i).contains r.nm = false) : rowW (rowWords r) names i = some r := by
  have h1 := h.nm
  have h2 := figB_dig h.lm h.lm.1 h.lm.2
  have h3 := h.sy
  have h4 : r.wy ≠ [] → rwB (wayWords r.wy) r.nm names = some r.wy := fun e => rwB_ok e h.wy h.up
  obtain ⟨nm, lm, sy, wy⟩ := r
  simp only at h1 h2 h3 h4 hi
  have hw : rowWords ⟨nm, lm, sy, wy⟩ = nm :: numT lm :: ((if sy then [stayT] else []) ++ (if wy.isEmpty then [] else arrowT :: wayWords wy)) := by simp [rowWords, wayWords]
  rw [hw]
  simp only [rowW]
  rw [if_pos (by rw [h1, hi]; rfl), h2]
  simp only
  cases sy with
  | true =>
    simp only [if_true]
    rw [if_pos (by simp)]
    cases wy with
    | nil => simp [restB]
    | cons x w =>
      have := h4 (by simp)
      simp only [List.isEmpty_cons, Bool.false_eq_true, if_false, List.singleton_append, List.drop_succ_cons, List.drop_zero, restB]
      rw [if_pos (by simp), this]
      rfl
  | false =>
    cases wy with
    | nil => simp at h3
    | cons x w =>
      have := h4 (by simp)
      simp only [Bool.false_eq_true, List.isEmpty_cons, if_false, List.nil_append]
      rw [if_neg (by simp; decide)]
      simp only [restB]
      rw [if_pos (by simp), this]
      rfl
theorem reads_text {rs : List Row} (h : GoodRows rs) : readsAs (splitT 10 [] (textTx rs)) rs := by
  rw [split_text h]
  have e : (rs.map rowTx).map firstW = rs.map (·.nm) := by
    rw [List.map_map]
    exact List.map_congr_left fun r hr => first_row (h.row r hr)
  refine ⟨by simp, fun i r row hr hrow => ?_⟩
  rw [List.getElem?_map, hr] at hrow
  simp only [Option.map_some, Option.some.injEq] at hrow
  subst hrow
  rw [e]
  have hg := h.row r (List.mem_of_getElem? hr)
  rw [split_row hg]
  refine rowW_ok hg ?_
  rw [Bool.eq_false_iff]
  intro m
  have m : r.nm ∈ (rs.map (·.nm)).take i := by simpa using m
  obtain ⟨j, hj, e2⟩ := List.mem_iff_getElem.mp m
  rw [List.length_take] at hj
  have hi := (List.getElem?_eq_some_iff.mp hr).1
  rw [List.getElem_take] at e2
  have h2 : (rs.map (·.nm))[i]'(by simpa using hi) = r.nm := by
    rw [List.getElem_map]
    rw [List.getElem?_eq_getElem hi] at hr
    rw [Option.some.inj hr]
  have := (List.getElem_inj h.nd).mp (e2.trans h2.symm)
  omega
theorem OkRow.of {names : List Tx} {r : Row} (h : GoodRow names r) (hw : r.wy.length ≤ 6) : OkRow r := ⟨(name_mem h.nm).2.2, by have := h.lm; omega, hw, fun x m => ⟨(name_mem (h.wy x m).1).2.2, by have := h.wy x m; omega⟩⟩
theorem sub_len {α : Type} [DecidableEq α] : ∀ {xs ys : List α}, xs.Nodup → (∀ x ∈ xs, x ∈ ys) → xs.length ≤ ys.length
  | [], ys, _, _ => Nat.zero_le _
  | x :: r, ys, hn, hs => by
    have hx := hs x (List.mem_cons_self ..)
    have h2 := List.nodup_cons.mp hn
    have := sub_len (ys := ys.erase x) h2.2 fun y hy => (List.mem_erase_of_ne (fun e : y = x => h2.1 (by rw [← e]; exact hy))).mpr (hs y (List.mem_cons_of_mem _ hy))
    have h3 := List.length_pos_of_mem hx
    rw [List.length_erase_of_mem hx] at this
    simp only [List.length_cons]
    omega
theorem ways_le {rs : List Row} (h : GoodRows rs) {r : Row} (hr : r ∈ rs) : r.wy.length ≤ 6 := by
  have hg := h.row r hr
  have nd : (r.wy.map (·.1)).Nodup := List.Pairwise.imp (S := (· ≠ ·)) (fun {a b} (h : a < b) (e : a = b) => List.lt_irrefl b (by rw [e] at h; exact h)) hg.up
  have sub : ∀ x ∈ r.wy.map (·.1), x ∈ rs.map (·.nm) := fun x m => by
    obtain ⟨y, hy, rfl⟩ := List.mem_map.mp m
    exact (hg.wy y hy).2.2.1
  have := sub_len nd sub
  have := h.len
  simp at *
  omega
theorem OkRows.of {rs : List Row} (h : GoodRows rs) : OkRows rs := ⟨h.len, fun r hr => OkRow.of (h.row r hr) (ways_le h hr)⟩
end PI.MX
end

section
set_option Elab.async false
set_option linter.all false
set_option maxRecDepth 100000
/-! PyT7: Site.parse, str(site). -/
namespace PI.MX
theorem flats_of {α : Type} {rs : List α} {F : α → Val} (h : ∀ r, flat (F r) = true) : flat (.tup (rs.map F)) = true := by
  simp only [flat]
  exact flats_map fun r _ => h r
theorem siteOb_ref {rs : List Row} : obRef (siteOb rs) = false := by
  have h1 : hasRef (namesV rs) = false := noRef_flat (flats_of fun _ => rfl)
  have h2 : hasRef (limitsV rs) = false := noRef_flat (flats_of fun _ => rfl)
  have h3 : hasRef (staysV rs) = false := noRef_flat (flats_of fun _ => rfl)
  have h4 : hasRef (wayssV rs) = false := noRef_flat (flats_of fun _ => flat_waysV)
  simp only [siteOb, obRef, List.map_cons, List.map_nil, hasRefs, h1, h2, h3, h4, hasRef, Bool.or_false]
theorem parse_ok {d w : Nat} {st : List Ob} {rs : List Row} {P : Val → S → Prop} (h : GoodRows rs) (q : P (.ref st.length) ⟨st ++ [siteOb rs], w⟩) : Ok (callN pgA wfA (d + 5) F_Site_parse [.str (textTx rs)]) ⟨st, w⟩ P := by
  refine ok_callN (df := d_Site_parse) rfl rfl ?_
  have hk := OkRows.of h
  have ht : textTx rs ≠ [] := by
    intro e
    have := split_text h
    rw [e] at this
    have h2 : rs.map rowTx = [[]] := this.symm
    obtain ⟨r, hr⟩ := List.exists_mem_of_ne_nil _ h.ne
    have h3 : rowTx r ∈ rs.map rowTx := List.mem_map_of_mem hr
    rw [h2, List.mem_singleton] at h3
    have h4 := split_row (h.row r hr)
    rw [h3] at h4
    simp [splitT, rowWords] at h4
  have hl := textTx_len hk
  simp only [d_Site_parse]
  rw [okt_cons, okt_ret, ok_make, ok_cons, ok_call, ok_cons, ok_var (v := .str (textTx rs)) rfl, ok_nil]
  refine read_rows_ok ht (by unfold lim; omega) h.len (reads_text h) ?_
  rw [ok_nil]
  refine ⟨F_Site___init__, rfl, ?_⟩
  refine site_init_ok (rs := rs) (lkp (k := 0) (by simp) (by simp)) ?_ hk ?_
  · show ((st ++ [Ob.lst (List.map rowV rs)]) ++ [Ob.ins C_Site []])[st.length]? = _
    rw [List.append_assoc]
    exact lkp (k := 0) rfl rfl
  · refine ⟨rfl, ?_⟩
    show Ok (leave st.length w (Val.ref (st ++ [Ob.lst (List.map rowV rs)]).length)) ⟨((st ++ [Ob.lst (List.map rowV rs)]) ++ [Ob.ins C_Site []]).set (st ++ [Ob.lst (List.map rowV rs)]).length (siteOb rs), st.length⟩ P
    rw [ss0, List.append_assoc]
    simp only [List.length_append, List.length_cons, List.length_nil, List.set_cons_zero]
    exact lvN (Nat.le_refl _) (k := 1) (o := siteOb rs) rfl siteOb_ref q
theorem site_str_ok {d w r : Nat} {st : List Ob} {rs : List Row} {P : Val → S → Prop} (h : st[r]? = some (siteOb rs)) (q : P (.str (textTx rs)) ⟨st, w⟩) : Ok (callN pgA wfA (d + 1) F_Site___str__ [.ref r]) ⟨st, w⟩ P := by
  refine ok_callN (df := d_Site___str__) rfl rfl ?_
  simp only [d_Site___str__]
  rw [okt_cons, okt_ret, ok_fstr, ok_attr, ok_var (v := .ref r) rfl]
  refine ⟨C_Site, _, .str (textTx rs), by rw [insOf_ref]; exact h, rfl, _, rfl, lv0 (Nat.le_refl _) rfl q⟩
theorem ok_strR {g : G} {r c k : Nat} {s : S} {fs : List (PySem.Str × Val)} {t : Tx} {Q : Val → S → Prop} (h : s.st[r]? = some (.ins c fs)) (hm : (g.pg.cs c).bind (·.strm) = some k) (q : Ok (g.call k [.ref r]) s fun v s2 => ∃ t, v = .str t ∧ Q (.str t) s2) : Ok (bfv g .str [.ref r]) s Q := by
  show Ok (bnd (look r) fun o => (match o with
    | .ins c _ => (match (g.pg.cs c).bind (·.strm) with
      | some f => bnd (noEx (g.call f [.ref r])) fun v => (match v with
        | .str s => ret (.str s)
        | _ => bad)
      | none => bad)
    | _ => bad)) s Q
  rw [ok_bnd, ok_look h]
  simp only [hm]
  rw [ok_bnd, ok_noEx]
  refine ok_mono q ?_
  rintro v s2 ⟨t, rfl, q⟩
  exact ok_ret.mpr q
theorem str_site_ok {d w r : Nat} {st : List Ob} {rs : List Row} {Q : Val → S → Prop} (h : st[r]? = some (siteOb rs)) (q : Q (.str (textTx rs)) ⟨st, w⟩) : Ok (bfv ⟨callN pgA wfA (d + 1), pgA, none, wfA⟩ .str [.ref r]) ⟨st, w⟩ Q :=
  ok_strR (c := C_Site) (k := F_Site___str__) (t := []) h rfl (site_str_ok h ⟨_, rfl, q⟩)
end PI.MX
end

section
set_option Elab.async false
set_option linter.all false
set_option maxRecDepth 100000
/-! PyW2: _law_word. -/
namespace PI.MX
def abc : Tx := [97, 98, 99, 100, 101, 102, 103, 104, 105, 106, 107, 108, 109, 110, 111, 112, 113, 114, 115, 116, 117, 118, 119, 120, 121, 122]
def isWord (x : Tx) : Prop := 1 ≤ x.length ∧ x.length ≤ 8 ∧ ∀ c ∈ x, c ∈ abc
def rngV (n : Nat) : List Val := (List.range n).map fun (j : Nat) => Val.int (j : Int)
theorem rngV_len {n : Nat} : (rngV n).length = n := by simp [rngV]
theorem src_rng {n i : Nat} {s : S} : srcAt (.rng 0 1 n) i s = .ok ((rngV n)[i]?) s := by
  show R.ok (if i < n then some (Val.int (0 + (i : Int) * 1)) else none) s = _
  congr 1
  unfold rngV
  by_cases h : i < n
  · simp [h]
  · simp [h]
theorem ok_srcR {n : Nat} {s : S} {P : Src → S → Prop} (h : n < 1000000) : Ok (srcOf .range [.int n]) s P ↔ P (.rng 0 1 n) s := by
  have c : (decide (-(2 ^ 62) ≤ (n : Int)) && decide ((n : Int) < 2 ^ 62)) = true := by
    rw [Bool.and_eq_true, decide_eq_true_eq, decide_eq_true_eq]
    omega
  simp only [srcOf]
  rw [ok_chk, c]
  simp
theorem word_ok {d r w : Nat} {a b : Int} {st : List Ob} {P : Val → S → Prop} (h : st[r]? = some (feedO a b))
    (q : ∀ x a2 b2, isWord x → P (.str x) ⟨st.set r (feedO a2 b2), w⟩) : Ok (callN pgA wfA (d + 3) F__law_word [.ref r]) ⟨st, w⟩ P := by
  have hr : r < st.length := (List.getElem?_eq_some_iff.mp h).1
  refine ok_callN (df := d__law_word) rfl rfl ?_
  simp [d__law_word, ok_var, okt_loop]
  refine take_ok h (by decide) (by decide) ?_
  have rg := tkV_range (a := a) (b := b) (many := 8) (by decide)
  obtain ⟨n, hn, h1, h8⟩ : ∃ n : Nat, 1 + tkV a b 8 = (n : Int) ∧ 1 ≤ n ∧ n ≤ 8 := ⟨(1 + tkV a b 8).toNat, by omega, by omega, by omega⟩
  rw [ok_addI, hn]
  rw [ok_srcR (show n < 1000000 by omega)]
  refine ⟨rfl, ?_⟩
  show OkT (forN _ _ (.rng 0 1 n) n 0 _ _) _ _
  refine okt_forN (xs := rngV n) (fun i fr s => ∃ x a2 b2 tl o, fr = [some (.ref r), some (.str x), o] ∧ s = ⟨st.set r (feedO a2 b2) ++ tl, st.length⟩ ∧ x.length = i ∧ ∀ c ∈ x, c ∈ abc) (fun i fr s _ => src_rng) ?_ ?_ n 0 _ _ (by rw [rngV_len]; omega) ⟨[], tkA a 8, tkB a b, [], none, rfl, by rw [List.append_nil], rfl, by simp⟩
  · rintro i v fr s hv ⟨x, a2, b2, tl, o, rfl, rfl, hx, hc⟩
    have hi : i < n := by have := (List.getElem?_eq_some_iff.mp hv).1; rwa [rngV_len] at this
    refine ⟨_, rfl, ?_⟩
    simp [ok_var, -ok_listS, -ok_addS]
    have hk : tkN a2 b2 26 < abc.length := tkN_lt (n := 26) (by decide)
    obtain ⟨xs, hxs, h26⟩ : ∃ xs, xs = abc.map (fun c => Val.str [c]) ∧ xs.length = 26 := ⟨_, rfl, rfl⟩
    have hal : ∀ (g : G) (s : S) (Q : Val → S → Prop), Q (.ref s.st.length) ⟨s.st ++ [.lst xs], s.w⟩ → Ok (bfv g .list [.str abc]) s Q := fun g s Q z => by
      rw [hxs] at z
      exact ok_listS.mpr z
    refine hal _ _ _ ?_
    refine pick_ok (a := a2) (b := b2) (xs := xs) (v := .str [abc[tkN a2 b2 26]]) ?_ ?_ ?_ (by omega) (by omega) ?_ (.inl rfl) ?_
    · rw [List.append_assoc, List.getElem?_append_left (by rw [List.length_set]; exact hr), List.getElem?_set_self hr]
    · simp
    · rw [List.length_append, List.length_set]
      omega
    · rw [h26, hxs, List.getElem?_map, List.getElem?_eq_getElem hk]
      rfl
    · rw [h26]
      show Ok (chk (decide (x.length + 1 ≤ lim)) (ret (Val.str (x ++ [abc[tkN a2 b2 26]])))) _ _
      rw [ok_chk, ok_ret]
      refine ⟨decide_eq_true (by unfold lim; omega), _, rfl, ⟨tkA a2 26, tkB a2 b2, tl ++ [.lst xs], ?_⟩, by rw [List.length_append]; simp; exact hx, fun c hm => ?_⟩
      · rw [List.append_assoc, List.set_append_left _ _ (by rw [List.length_set]; exact hr), List.set_set]
        rfl
      · rcases List.mem_append.mp hm with z | z
        · exact hc c z
        · rw [List.mem_singleton.mp z]
          exact List.getElem_mem hk
  · rintro fr s ⟨x, a2, b2, tl, o, rfl, rfl, hx, hc⟩
    rw [ok_var (v := .str x) rfl]
    refine (ok_leave (Nat.le_refl _) rfl).mpr ?_
    rw [List.take_left' (by simp)]
    exact q x a2 b2 ⟨by rw [hx, rngV_len]; exact h1, by rw [hx, rngV_len]; exact h8, hc⟩
end PI.MX
end

section
set_option Elab.async false
set_option linter.all false
set_option maxRecDepth 100000
/-! PyK1: the text by the law. -/
namespace PI.MX
theorem law_row_ok {d w : Nat} {st : List Ob} {r : Row} {P : Val → S → Prop} (h : OkRow r) (q : P (.str (rowTx r)) ⟨st, w⟩) : Ok (callN pgA wfA (d + 1) F__law_row [rowV r]) ⟨st, w⟩ P := by
  refine ok_callN (df := d__law_row) rfl rfl ?_
  obtain ⟨nm, lm, sy, wy⟩ := r
  have fw : flat.flats (wy.map wayV) = true := flats_map fun x _ => flat_wayV
  have dw : dep.deps (wy.map wayV) ≤ 50 := deps_map fun x _ => by simp [wayV, dep, dep.deps]
  have hj := rowWords_join h
  have hq : rowTx ⟨nm, lm, sy, wy⟩ = joinT [32] (rowWords ⟨nm, lm, sy, wy⟩) := rfl
  have n1 := num_ok h.lm
  simp only [Bool.and_eq_true, decide_eq_true_eq] at n1
  have two : 2 ≤ lim := by decide
  -- the words ahead of the ways
  obtain ⟨W, hW⟩ : ∃ W, W = [nm, numT lm] ++ (if sy then [stayT] else []) ++ (if wy.isEmpty then [] else [arrowT]) := ⟨_, rfl⟩
  have hWl : W.length ≤ 4 := by rw [hW]; cases sy <;> cases wy.isEmpty <;> simp
  have hWr : rowWords ⟨nm, lm, sy, wy⟩ = W ++ wayWords wy := by
    rw [hW]
    cases wy with
    | nil => simp [rowWords, wayWords]
    | cons x r => simp [rowWords, wayWords]
  rw [hWr] at hj hq
  have tail : ∀ (tl : List Ob) (v6 v7 : Option Val), tl[0]? = some (.lst (svs W)) → OkT (exTs ⟨callN pgA wfA d, pgA, none, wfA⟩ (drp 4 d__law_row.body) [some (rowV ⟨nm, lm, sy, wy⟩), some (.ref st.length), some (.str nm), some (.int lm), some (.bl sy), some (waysV wy), v6, v7] ⟨st ++ tl, st.length⟩) (fun _ s2 => Ok (leave st.length w .non) s2 P) (fun v s2 => Ok (leave st.length w v) s2 P) := fun tl v6 v7 htl => by
    simp only [d__law_row, drp]
    rw [okt_cons, okt_loop]
    simp [-okt_cons, ok_var, waysV]
    refine ⟨rfl, ?_⟩
    show OkT (forN _ _ _ (wy.map wayV).length _ _ _) _ _
    refine okt_forN (xs := wy.map wayV) (fun j fr s => ∃ x6 x7 tl2 k, fr = [some (rowV ⟨nm, lm, sy, wy⟩), some (.ref (st.length + k)), some (.str nm), some (.int lm), some (.bl sy), some (.tup (wy.map wayV)), x6, x7] ∧ s = ⟨st ++ tl2, st.length⟩ ∧ tl2[k]? = some (.lst (svs (W ++ wayWords (wy.take j))))) (fun i fr s _ => src_items) ?_ ?_ _ 0 _ _ (by simp) ⟨v6, v7, tl, 0, rfl, rfl, by rw [htl]; simp [wayWords]⟩
    · rintro j v fr s hv ⟨x6, x7, tl2, k, rfl, rfl, hk⟩
      rw [List.getElem?_map] at hv
      obtain ⟨x, hx, rfl⟩ := Option.map_eq_some_iff.mp hv
      refine ⟨_, rfl, ?_⟩
      have n2 := num_ok ((h.wy x (List.mem_of_getElem? hx)).2)
      simp only [Bool.and_eq_true, decide_eq_true_eq] at n2
      have hj2 := (List.getElem?_eq_some_iff.mp hx).1
      have e : wayWords (wy.take (j + 1)) = wayWords (wy.take j) ++ [x.1, numT x.2] := by
        rw [List.take_add_one, hx]
        simp [wayWords]
      have hl2 := wayWords_len (ws := wy.take j)
      rw [List.length_take] at hl2
      have hwn := h.wn
      simp only at hwn
      rw [okt_cons]
      simp [ok_var, n2]
      have g1 : ∀ t3, (st ++ (tl2 ++ t3))[st.length + k]? = some (.lst (svs (W ++ wayWords (wy.take j)))) := fun t3 => by
        rw [stk]
        exact sto hk
      have g2 : (st ++ (tl2 ++ [Ob.lst [.str x.1, .str (numT x.2)]]))[st.length + tl2.length]? = some (.lst [.str x.1, .str (numT x.2)]) := by
        rw [stk]
        simp
      simp [g1, g2]
      refine ⟨two, by rw [svs_len]; simp; unfold lim; omega, _, _, _, _, ⟨rfl, rfl, rfl⟩, rfl, ?_⟩
      rw [e]
      simp [svs]
    · rintro fr s ⟨x6, x7, tl2, k, rfl, rfl, hk⟩
      rw [okt_cons]
      have g1 : (st ++ tl2)[st.length + k]? = some (.lst (svs (W ++ wayWords wy))) := by
        rw [stk, hk]
        simp
      simp [ok_var, g1]
      rw [hq] at q
      simp at hj
      exact ⟨hj, lv (Nat.le_refl _) rfl q⟩
  simp only [d__law_row, rowV]
  rw [okt_cons, okt_asgT]
  simp [-okt_cons, ok_var, putAll, waysV]
  rw [okt_cons]
  simp [-okt_cons, ok_var, n1, stk]
  refine ⟨two, ?_⟩
  rw [okt_cons]
  have ne : ∀ (g : G) (s : S) (PB : Bool → S → Prop), Ok (cmpv g .eq (.tup (wy.map wayV)) (.tup [])) s PB ↔ PB wy.isEmpty s := fun g s PB => by
    rw [ok_eqNilT fw dw]
    cases wy <;> exact Iff.rfl
  cases sy with
  | false =>
    simp [-okt_cons, ok_var]
    rw [okt_cons]
    simp [-okt_cons, ok_var, ne]
    by_cases hem : wy = []
    · rw [if_pos hem]
      exact tail _ _ _ (by rw [hW]; simp [hem]; rfl)
    · rw [if_neg hem]
      have hem : wy.isEmpty = false := by simpa using hem
      rw [okt_cons]
      simp [-okt_cons, ok_var, st0, ss0]
      exact ⟨rfl, by decide, tail _ _ _ (by rw [hW]; simp [hem]; rfl)⟩
  | true =>
    simp [-okt_cons, ok_var]
    rw [okt_cons]
    simp [-okt_cons, ok_var, st0, ss0]
    refine ⟨rfl, by decide, ?_⟩
    rw [okt_cons]
    simp [-okt_cons, ok_var, ne]
    by_cases hem : wy = []
    · rw [if_pos hem]
      exact tail _ _ _ (by rw [hW]; simp [hem]; rfl)
    · rw [if_neg hem]
      have hem : wy.isEmpty = false := by simpa using hem
      rw [okt_cons]
      simp [-okt_cons, ok_var, st0, ss0]
      exact ⟨rfl, by decide, tail _ _ _ (by rw [hW]; simp [hem]; rfl)⟩
end PI.MX
end

section
set_option Elab.async false
set_option linter.all false
set_option maxRecDepth 100000
/-! PyK2: repr of the parts of a site. -/
namespace PI.MX
open PySem (Str PyData)
/-- a short text of signs -/
def Fine (t : Str) (n : Nat) : Prop := (∀ c ∈ t.cps.toList, c < 1114112) ∧ t.cps.toList.length ≤ n
instance {t : Str} {n : Nat} : Decidable (Fine t n) := by unfold Fine; exact inferInstance
theorem fine_app {a b : Str} {n m : Nat} (ha : Fine a n) (hb : Fine b m) : Fine (a ++ b) (n + m) := by
  have e : (a ++ b).cps.toList = a.cps.toList ++ b.cps.toList := by
    show (a.cps ++ b.cps).toList = _
    simp
  constructor
  · intro c hc
    rw [e] at hc
    rcases List.mem_append.mp hc with h | h
    · exact ha.1 c h
    · exact hb.1 c h
  · rw [e, List.length_append]
    exact Nat.add_le_add ha.2 hb.2
theorem fine_mono {a : Str} {n m : Nat} (h : Fine a n) (k : n ≤ m) : Fine a m := ⟨h.1, Nat.le_trans h.2 k⟩
theorem fine_join {n : Nat} : ∀ {ts : List Str}, (∀ t ∈ ts, Fine t n) → Fine (Str.join ", " ts) (ts.length * (n + 2))
  | [], _ => ⟨by simp [Str.join, Str.empty], by simp [Str.join, Str.empty]⟩
  | [x], h => fine_mono (h x (List.mem_cons_self ..)) (by simp)
  | x :: y :: r, h => by
    have h1 := fine_join (ts := y :: r) fun t m => h t (List.mem_cons_of_mem _ m)
    have h2 : Fine (", " : Str) 2 := by decide +kernel
    have := fine_app (fine_app (h x (List.mem_cons_self ..)) h2) h1
    refine fine_mono this ?_
    simp only [List.length_cons, Nat.add_mul]
    omega
theorem fine_tuple {n : Nat} {ts : List Str} (h : ∀ t ∈ ts, Fine t n) : Fine (PySem.tupleText ts) (ts.length * (n + 2) + 3) := by
  unfold PySem.tupleText
  have h1 : Fine ("(" : Str) 1 := by decide +kernel
  have h2 : Fine (if ts.length == 1 then ",)" else ")" : String) 2 := by
    split
    · exact (by decide +kernel : Fine (",)" : Str) 2)
    · exact (by decide +kernel : Fine (")" : Str) 2)
  exact fine_mono (fine_app (fine_app h1 (fine_join h)) h2) (by omega)
theorem repr_chars {q : Nat} : ∀ {x : Tx} {acc : Array Nat}, (∀ c ∈ x, PySem.Builtin.Str.reprChar q c = [c]) → (x.foldl (fun out c => out ++ (PySem.Builtin.Str.reprChar q c).toArray) acc).toList = acc.toList ++ x
  | [], acc, _ => by simp
  | c :: r, acc, h => by
    rw [List.foldl_cons, repr_chars fun d m => h d (List.mem_cons_of_mem _ m), h c (List.mem_cons_self ..)]
    simp
theorem fine_str {x : Tx} (h : ∀ c ∈ x, c ∈ abcT) : Fine (PySem.reprText ⟨x.toArray⟩) (x.length + 2) := by
  have hq : PySem.reprQuote ⟨x.toArray⟩ = 39 := by
    unfold PySem.reprQuote
    rw [if_neg]
    intro k
    have k1 := (Bool.and_eq_true .. ▸ k : _ ∧ _).1
    have k2 : 39 ∈ x := by simpa [Array.contains_iff] using k1
    exact absurd (h _ k2) (by decide)
  have hc : ∀ c ∈ x, PySem.Builtin.Str.reprChar 39 c = [c] := fun c m => by
    have := h c m
    have k : ∀ c ∈ abcT, PySem.Builtin.Str.reprChar 39 c = [c] := by decide +kernel
    exact k c this
  have e : (PySem.reprText ⟨x.toArray⟩).cps.toList = 39 :: x ++ [39] := by
    unfold PySem.reprText
    rw [hq]
    simp only [Array.toList_push, List.foldl_toArray']
    rw [repr_chars hc]
    rfl
  constructor
  · intro c m
    rw [e] at m
    rcases List.mem_append.mp m with m | m
    · rcases List.mem_cons.mp m with rfl | m
      · decide
      · have k : ∀ c ∈ abcT, c < 1114112 := by decide
        exact k c (h c m)
    · rw [List.mem_singleton.mp m]; decide
  · rw [e]
    simp
theorem fine_int {i : Int} (h : 0 ≤ i ∧ i ≤ 99) : Fine (toString i : String) 2 ∧ i.natAbs.log2 < 1920 := by
  have k : ∀ n : Fin 100, Fine (toString (n.val : Int) : String) 2 := by decide +kernel
  have := k ⟨i.toNat, by omega⟩
  simp only at this
  rw [show ((i.toNat : Nat) : Int) = i by omega] at this
  exact ⟨this, num_log h⟩
/-- a value whose repr is a short text -/
structure Shows (d : Val) (n : Nat) : Prop where
  fn : Fine (pd d).shown n
  sh : (pd d).showable = true
  di : (pd d).hasDict = false
theorem shows_str {x : Tx} (h : ∀ c ∈ x, c ∈ abcT) : Shows (.str x) (x.length + 2) := ⟨by simpa only [pd, PyData.shown] using fine_str h, rfl, rfl⟩
theorem shows_int {i : Int} (h : 0 ≤ i ∧ i ≤ 99) : Shows (.int i) 2 := ⟨by simpa only [pd, PyData.shown] using (fine_int h).1, by simp only [pd, PyData.showable]; exact decide_eq_true (fine_int h).2, rfl⟩
theorem shows_bl {b : Bool} : Shows (.bl b) 5 := ⟨by simp only [pd, PyData.shown]; cases b <;> decide +kernel, rfl, rfl⟩
theorem shows_mono {d : Val} {n m : Nat} (h : Shows d n) (k : n ≤ m) : Shows d m := ⟨fine_mono h.fn k, h.sh, h.di⟩
theorem shows_tup {xs : List Val} {n : Nat} (h : ∀ x ∈ xs, Shows x n) : Shows (.tup xs) (xs.length * (n + 2) + 3) := by
  have key : ∀ {xs : List Val}, (∀ x ∈ xs, Shows x n) → (∀ t ∈ PyData.shownAll (pds xs), Fine t n) ∧ (PyData.shownAll (pds xs)).length = xs.length ∧ PyData.showableAll (pds xs) = true ∧ PyData.hasDictAll (pds xs) = false := by
    intro xs
    induction xs with
    | nil => intro _; exact ⟨by simp [pds, PyData.shownAll], rfl, rfl, rfl⟩
    | cons x r ih =>
      intro h
      obtain ⟨h1, h2, h3, h4⟩ := ih fun y m => h y (List.mem_cons_of_mem _ m)
      have hx := h x (List.mem_cons_self ..)
      refine ⟨?_, ?_, ?_, ?_⟩
      · intro t ht
        simp only [pds, PyData.shownAll] at ht
        rcases List.mem_cons.mp ht with rfl | ht
        · exact hx.fn
        · exact h1 t ht
      · simp only [pds, PyData.shownAll, List.length_cons, h2]
      · simp only [pds, PyData.showableAll, hx.sh, h3, Bool.and_self]
      · simp only [pds, PyData.hasDictAll, hx.di, h4, Bool.or_self]
  obtain ⟨h1, h2, h3, h4⟩ := key h
  refine ⟨?_, ?_, ?_⟩
  · simp only [pd, PyData.shown]
    have := fine_tuple h1
    rwa [h2] at this
  · simpa only [pd, PyData.showable] using h3
  · simpa only [pd, PyData.hasDict] using h4
theorem ok_reprS {v : Val} {n : Nat} (hf : flat v = true) (hd : dep v ≤ 50) (h : Shows v n) (hn : n ≤ lim) : ∃ t, ∀ (g : G) (s : S) (Q : Val → S → Prop), Ok (bfv g .repr [v]) s Q ↔ Q (.str t) s := by
  refine ⟨(pd v).shown.cps.toList, fun g s Q => ok_repr (deep_flat hf (by omega)) ?_ ?_ (Nat.le_trans h.fn.2 hn)⟩
  · unfold reprV
    rw [if_pos h.sh]
  · exact List.all_eq_true.mpr fun c hc => decide_eq_true (h.fn.1 c hc)
end PI.MX
end

section
set_option Elab.async false
set_option linter.all false
set_option maxRecDepth 100000
/-! PyK0: _law_text; an attribute. -/
namespace PI.MX
open PySem (Str)
theorem law_text_ok {d w r : Nat} {st : List Ob} {rs : List Row} {P : Val → S → Prop} (h : st[r]? = some (.lst (rs.map rowV))) (hk : OkRows rs) (q : P (.str (textTx rs)) ⟨st, w⟩) : Ok (callN pgA wfA (d + 2) F__law_text [.ref r]) ⟨st, w⟩ P := by
  refine ok_callN (df := d__law_text) rfl rfl ?_
  have hj := rows_join hk
  have hl : rs.length ≤ lim := by have := hk.len; unfold lim; omega
  have hst : strsOf (rs.map fun r => Val.str (rowTx r)) = some (rs.map rowTx) := by
    have := strsOf_strs (xs := rs.map rowTx)
    unfold svs at this
    rw [List.map_map] at this
    exact this
  simp only [d__law_text]
  rw [okt_cons, okt_ret, ok_bm, ok_k, ok_bmChkS, ok_cons]
  refine ⟨rfl, ?_⟩
  refine ok_compLive (items := rs) (f := rowV) (F := fun r => .str (rowTx r)) (fun x => [some (.ref r), some (rowV x)]) (fun P => ok_var rfl) h hl (fun a => rfl) (fun a ha => ?_) ?_
  · simp [ok_var]
    exact law_row_ok (hk.row a ha) ⟨rfl, rfl⟩
  · rw [ok_nil, ok_joinR]
    refine ⟨_, by rw [st0]; rfl, rs.map rowTx, hst, decide_eq_true (by unfold lim; omega), lv (Nat.le_refl _) rfl q⟩
theorem attr_ok {g : G} {fr : Fr} {i r c w : Nat} {f : Str} {v : Val} {st : List Ob} {fs : List (Str × Val)} {Q : Val → S → Prop} (ha : fr[i]? = some (some (.ref r))) (h : st[r]? = some (.ins c fs)) (hl : fs.lookup f = some v) : Ok (ev g fr (.attr (.var i) f)) ⟨st, w⟩ Q ↔ Q v ⟨st, w⟩ := by
  rw [ok_attr, ok_var ha]
  constructor
  · rintro ⟨c2, fs2, v2, e1, e2, q⟩
    rw [insOf_ref] at e1
    have e1 : st[r]? = some (.ins c2 fs2) := e1
    rw [h] at e1
    cases e1
    rw [hl] at e2
    cases e2
    exact q
  · exact fun q => ⟨c, fs, v, insOf_ref.mpr h, hl, q⟩
end PI.MX
end

section
set_option Elab.async false
set_option linter.all false
set_option maxRecDepth 100000
/-! PyK8: sorted texts, names. -/
namespace PI.MX
theorem perm_ins {x : Tx} : ∀ {xs : List Tx}, (insT x xs).Perm (x :: xs)
  | [] => List.Perm.refl _
  | y :: r => by
    unfold insT
    split
    · exact List.Perm.refl _
    · exact (List.Perm.cons y perm_ins).trans (List.Perm.swap x y r)
theorem perm_sort : ∀ {xs : List Tx}, (sortT xs).Perm xs
  | [] => List.Perm.refl _
  | x :: r => by
    show (insT x (sortT r)).Perm _
    exact perm_ins.trans (List.Perm.cons x perm_sort)
theorem ins_up {x : Tx} : ∀ {xs : List Tx}, xs.Pairwise (· ≤ ·) → (insT x xs).Pairwise (· ≤ ·)
  | [], _ => by simp [insT]
  | y :: r, h => by
    obtain ⟨h1, h2⟩ := List.pairwise_cons.mp h
    unfold insT
    split
    · rename_i hx
      refine List.pairwise_cons.mpr ⟨fun z hz => ?_, h⟩
      rcases List.mem_cons.mp hz with rfl | hz
      · exact hx
      · exact List.le_trans hx (h1 z hz)
    · rename_i hx
      refine List.pairwise_cons.mpr ⟨fun z hz => ?_, ins_up h2⟩
      rcases List.mem_cons.mp (perm_ins.mem_iff.mp hz) with rfl | hz
      · exact (List.le_total y z).resolve_right hx
      · exact h1 z hz
theorem sort_up : ∀ {xs : List Tx}, (sortT xs).Pairwise (· ≤ ·)
  | [] => List.Pairwise.nil
  | x :: r => ins_up sort_up
theorem sort_lt {xs : List Tx} (h : xs.Nodup) : (sortT xs).Pairwise (· < ·) := by
  have h1 := sort_up (xs := xs)
  have h2 : (sortT xs).Nodup := perm_sort.nodup_iff.mpr h
  refine List.Pairwise.imp₂ (fun a b (h : a ≤ b) (k : a ≠ b) => ?_) h1 h2
  rcases Decidable.em (a < b) with l | l
  · exact l
  · exact absurd (List.le_antisymm h (List.not_lt.mp l)) k
theorem ded_mem {x : Tx} : ∀ {xs : List Tx}, x ∈ dedT xs ↔ x ∈ xs
  | [] => Iff.rfl
  | y :: r => by
    unfold dedT
    split
    · rename_i h
      have h : y ∈ r := by simpa using h
      rw [ded_mem, List.mem_cons]
      constructor
      · exact .inr
      · rintro (rfl | k)
        · exact h
        · exact k
    · rw [List.mem_cons, List.mem_cons, ded_mem]
theorem ded_nd : ∀ {xs : List Tx}, (dedT xs).Nodup
  | [] => List.Pairwise.nil
  | y :: r => by
    unfold dedT
    split
    · exact ded_nd
    · rename_i h
      exact List.nodup_cons.mpr ⟨fun k => h (by simpa using ded_mem.mp k), ded_nd⟩
theorem ded_len : ∀ {xs : List Tx}, (dedT xs).length ≤ xs.length
  | [] => Nat.le_refl _
  | y :: r => by
    have := ded_len (xs := r)
    unfold dedT
    split <;> simp <;> omega
/-- names as they may be drawn -/
structure Names (ns : List Tx) : Prop where
  nd : ns.Nodup
  lo : 1 ≤ ns.length
  hi : ns.length ≤ 6
  nm : ∀ x ∈ ns, isNameB x = true
theorem Names.take {ns : List Tx} {k : Nat} (h : Names ns) (hk : 1 ≤ k) : Names (ns.take k) := by
  have h1 := h.lo
  have h2 := h.hi
  refine ⟨(List.take_sublist k ns).nodup h.nd, ?_, ?_, fun x hx => h.nm x (List.mem_of_mem_take hx)⟩ <;> rw [List.length_take] <;> omega
end PI.MX
end

section
set_option Elab.async false
set_option linter.all false
set_option maxRecDepth 100000
/-! PyK4: sorted texts; the feed's rules anew. -/
namespace PI.MX
theorem isWord_name {x : Tx} (h : isWord x) : isNameB x = true := by
  unfold isNameB
  rw [decide_eq_true h.1, decide_eq_true h.2.1]
  simp only [Bool.true_and, List.all_eq_true, decide_eq_true_eq]
  exact fun c m => h.2.2 c m
theorem Names.of_words {ws : List Tx} (h1 : 1 ≤ ws.length) (h2 : ws.length ≤ 6) (h : ∀ x ∈ ws, isWord x) : Names (sortT (dedT ws)).reverse := by
  have hl : (sortT (dedT ws)).length = (dedT ws).length := perm_sort.length_eq
  refine ⟨(List.reverse_perm _).nodup_iff.mpr (perm_sort.nodup_iff.mpr ded_nd), ?_, ?_, fun x hx => ?_⟩
  · rw [List.length_reverse, hl]
    cases ws with
    | nil => simp at h1
    | cons y r => exact List.length_pos_of_mem (ded_mem.mpr (List.mem_cons_self (a := y) (l := r)))
  · rw [List.length_reverse, hl]
    exact Nat.le_trans ded_len h2
  · exact isWord_name (h x (ded_mem.mp (perm_sort.mem_iff.mp (List.mem_reverse.mp hx))))
/-! the feed -/
section
variable {d r w : Nat} {a b : Int} {st tl : List Ob} {P : Val → S → Prop}
theorem take_okS {many : Int} (hr : r < st.length) (h1 : 0 < many) (h2 : many < 1073741824) (q : ∀ v a2 b2, 0 ≤ v → v < many → P (.int v) ⟨st.set r (feedO a2 b2) ++ tl, w⟩) : Ok (callN pgA wfA (d + 1) F__law_take [.ref r, .int many]) ⟨st.set r (feedO a b) ++ tl, w⟩ P := by
  refine take_ok (a := a) (b := b) (sto (by rw [List.getElem?_set_self hr])) h1 h2 ?_
  rw [List.set_append_left _ _ (by simpa using hr), List.set_set]
  exact q _ _ _ (tkV_range h1).1 (tkV_range h1).2
theorem pick_okS {k : Nat} {xs : List Val} (hr : r < st.length) (hx : tl[k]? = some (.lst xs)) (h1 : 0 < xs.length) (h2 : xs.length < 1000000) (hl : ∀ v ∈ xs, hasRef v = false ∨ ∃ q, v = .ref q ∧ q < st.length + tl.length)
    (q : ∀ v a2 b2, v ∈ xs → P v ⟨st.set r (feedO a2 b2) ++ tl, w⟩) : Ok (callN pgA wfA (d + 2) F__law_pick [.ref r, .ref (st.length + k)]) ⟨st.set r (feedO a b) ++ tl, w⟩ P := by
  have hk := tkN_lt (a := a) (b := b) h1
  have hm : xs[tkN a b xs.length]? = some xs[tkN a b xs.length] := List.getElem?_eq_getElem hk
  refine pick_ok (a := a) (b := b) (xs := xs) (v := xs[tkN a b xs.length]) (sto (by rw [List.getElem?_set_self hr])) ?_ (by omega) h1 h2 hm ?_ ?_
  · rw [show st.length + k = (st.set r (feedO a b)).length + k by simp, stk]
    exact hx
  · rcases hl _ (List.getElem_mem hk) with h | ⟨z, h, hz⟩
    · exact .inl h
    · exact .inr ⟨z, h, by simpa using hz⟩
  · rw [List.set_append_left _ _ (by simpa using hr), List.set_set]
    exact q _ _ _ (List.getElem_mem hk)
theorem word_okS (hr : r < st.length) (q : ∀ x a2 b2, isWord x → P (.str x) ⟨st.set r (feedO a2 b2) ++ tl, w⟩) : Ok (callN pgA wfA (d + 3) F__law_word [.ref r]) ⟨st.set r (feedO a b) ++ tl, w⟩ P := by
  refine word_ok (a := a) (b := b) (sto (by rw [List.getElem?_set_self hr])) fun x a2 b2 hx => ?_
  rw [List.set_append_left _ _ (by simpa using hr), List.set_set]
  exact q x a2 b2 hx
end
end PI.MX
end

section
set_option Elab.async false
set_option linter.all false
set_option maxRecDepth 100000
/-! PyK5: _law_drawn. -/
namespace PI.MX
def nsA : List Tx := [[98], [97], [100], [99], [102], [101]]
def nsB : List Tx := [[115, 116, 97, 121], [97, 98], [98], [97], [97, 98, 99, 100, 101, 102, 103, 104], [122]]
theorem names_A : Names nsA := ⟨by decide, by decide, by decide, by decide⟩
theorem names_B : Names nsB := ⟨by decide, by decide, by decide, by decide⟩
def DrawnInv (st tl : List Ob) (r : Nat) (ms : List Tx) (many : Int) (i : Nat) (fr : Fr) (s : S) : Prop := ∃ (rs : List Row) (a b : Int) (T : List Ob) (x2 x5 x6 x7 x8 x9 x10 : Option Val), fr = [some (.ref r), some (.ref (st.length + tl.length)), x2, some (.ref (st.length + (tl.length + 1))), some (.int many), x5, x6, x7, x8, x9, x10] ∧ s = ⟨st.set r (feedO a b) ++ (tl ++ (.lst (svs ms) :: .lst (rs.map rowV) :: T)), st.length⟩ ∧ rs.map (·.nm) = ms.take i ∧ ∀ x ∈ rs, GoodRow ms x
theorem drawn_ok {d r w : Nat} {a b : Int} {st : List Ob} {P : Val → S → Prop} (h : st[r]? = some (feedO a b))
    (q : ∀ rs a2 b2, GoodRows rs → P (.ref st.length) ⟨st.set r (feedO a2 b2) ++ [.lst (rs.map rowV)], w⟩) : Ok (callN pgA wfA (d + 4) F__law_drawn [.ref r]) ⟨st, w⟩ P := by
  have hr : r < st.length := (List.getElem?_eq_some_iff.mp h).1
  refine ok_callN (df := d__law_drawn) rfl rfl ?_
  have e0 : st = st.set r (feedO a b) ++ [] := by
    rw [List.getElem?_eq_getElem hr] at h
    rw [List.append_nil, ← Option.some.inj h]
    exact (List.set_getElem_self hr).symm
  have hlen : ∀ a b, (st.set r (feedO a b)).length = st.length := fun a b => by simp
  have hk : ∀ a b tl k, (st.set r (feedO a b) ++ tl)[st.length + k]? = tl[k]? := fun a b tl k => by
    have := stk (a := st.set r (feedO a b)) (b := tl) (k := k)
    rwa [hlen] at this
  have hk0 : ∀ a b tl, (st.set r (feedO a b) ++ tl)[st.length]? = tl[0]? := fun a b tl => hk a b tl 0
  -- from the names on
  have tail2 : ∀ (ns : List Tx) (tl : List Ob) (k : Nat) (a b : Int), Names ns → tl[k]? = some (.lst (svs ns)) →
      OkT (exTs ⟨callN pgA wfA (d + 3), pgA, none, wfA⟩ (drp 2 d__law_drawn.body) [some (.ref r), some (.ref (st.length + k)), none, none, none, none, none, none, none, none, none] ⟨st.set r (feedO a b) ++ tl, st.length⟩) (fun _ s2 => Ok (leave st.length w .non) s2 P) (fun v s2 => Ok (leave st.length w v) s2 P) := by
    intro ns tl k a b hns htl
    have hn1 := hns.lo
    have hn2 := hns.hi
    simp only [d__law_drawn, drp]
    rw [okt_cons, okt_asg, ok_slc]
    simp [-okt_cons, ok_var, hk, htl, svs_len]
    refine take_okS hr (by omega) (by omega) fun v a2 b2 h0 h1 => ?_
    obtain ⟨n, hn⟩ : ∃ n : Nat, 1 + v = ((n + 1 : Nat) : Int) := ⟨v.toNat, by omega⟩
    rw [ok_addI, hn]
    simp only [List.getElem?_append_left, hk]
    refine ⟨_, rfl, _, htl, ?_⟩
    rw [cut_take, svs_take]
    have hm := Names.take (k := n + 1) hns (by omega)
    obtain ⟨ms, hms⟩ : ∃ ms, ms = ns.take (n + 1) := ⟨_, rfl⟩
    rw [← hms] at hm ⊢
    rw [okt_cons, okt_asgT]
    simp [-okt_cons, ok_var, putAll]
    refine ⟨by decide, ?_⟩
    refine pick_okS (k := tl.length + 2) (xs := [.int 1, .int 2, .int 3]) hr (by simp) (by simp) (by simp) (fun v hv => by simp at hv; rcases hv with rfl | rfl | rfl <;> exact .inl rfl) fun v a3 b3 hv => ?_
    obtain ⟨many, rfl⟩ : ∃ many, v = .int many := by simp at hv; rcases hv with rfl | rfl | rfl <;> exact ⟨_, rfl⟩
    refine ⟨by decide, ?_⟩
    rw [okt_cons, okt_loop]
    simp [-okt_cons, ok_var]
    rw [ok_srcV (xs := svs ms) (by show (st.set r (feedO a3 b3) ++ _)[_]? = _; rw [hk, List.getElem?_append_right (Nat.le_refl _), Nat.sub_self]; rfl)]
    refine ⟨rfl, ?_⟩
    rw [srcLen_live (xs := svs ms) (by show (st.set r (feedO a3 b3) ++ _)[_]? = _; rw [hk, List.getElem?_append_right (Nat.le_refl _), Nat.sub_self]; rfl), svs_len]
    have hl1 := hm.lo
    have hl2 := hm.hi
    -- the store within the loop
    have hnames : ∀ a b tl2, (st.set r (feedO a b) ++ (tl ++ (.lst (svs ms) :: tl2)))[st.length + tl.length]? = some (.lst (svs ms)) := fun a b tl2 => by
      rw [hk, List.getElem?_append_right (Nat.le_refl _), Nat.sub_self]
      rfl
    have hfound : ∀ a b o x tl2, (st.set r (feedO a b) ++ (tl ++ (o :: x :: tl2)))[st.length + (tl.length + 1)]? = some x := fun a b o x tl2 => by
      rw [hk, List.getElem?_append_right (by omega), show tl.length + 1 - tl.length = 1 by omega]
      rfl
    refine okt_forN (xs := svs ms) (DrawnInv st tl r ms many) ?_ ?_ ?_ _ 0 _ _ (by rw [svs_len]; omega) ⟨[], a3, b3, [.lst [.int 1, .int 2, .int 3]], none, none, none, none, none, none, none, rfl, rfl, rfl, by simp⟩
    · rintro i fr s ⟨rs, a, b, T, x2, x5, x6, x7, x8, x9, x10, rfl, rfl, _, _⟩
      exact src_live (hnames a b _)
    · rintro i v fr s hv ⟨rs, a, b, T, x2, x5, x6, x7, x8, x9, x10, rfl, rfl, hnm, hgood⟩
      obtain ⟨nm, hi, rfl⟩ : ∃ nm, ms[i]? = some nm ∧ v = .str nm := by
        unfold svs at hv
        rw [List.getElem?_map] at hv
        obtain ⟨x, hx, e⟩ := Option.map_eq_some_iff.mp hv
        exact ⟨x, hx, e.symm⟩
      refine ⟨_, rfl, ?_⟩
      rw [okt_cons, okt_asg, ok_comp, ok_cons, ok_bf, ok_cons, ok_var (v := .ref (st.length + tl.length)) rfl, ok_nil]
      refine (ok_sortR (ss := ms) (hnames a b _) (by omega)).mpr ?_
      rw [ok_nil]
      simp only [List.append_assoc, List.cons_append, List.length_append, List.length_set, List.length_cons]
      have live : ∀ a b (T : List Ob) x, (st.set r (feedO a b) ++ (tl ++ (Ob.lst (svs ms) :: Ob.lst (rs.map rowV) :: (T ++ [x]))))[st.length + (tl.length + (T.length + 1 + 1))]? = some x := fun a b T x => by
        rw [hk, List.getElem?_append_right (by omega), show tl.length + (T.length + 1 + 1) - tl.length = T.length + 1 + 1 by omega]
        simp
      rw [ok_srcV (live _ _ _ _)]
      refine ⟨rfl, ?_⟩
      rw [srcLen_live (live _ _ _ _), svs_len]
      -- the first comprehension
      refine ok_compN (xs := svs (sortT ms)) (fun i acc s => ∃ es a b, acc = svs es ∧ es.Sublist ((sortT ms).take i) ∧ s = ⟨st.set r (feedO a b) ++ (tl ++ (Ob.lst (svs ms) :: Ob.lst (rs.map rowV) :: (T ++ [Ob.lst (svs (sortT ms))]))), st.length⟩) ?_ ?_ ?_ _ 0 _ _ (by rw [svs_len]; omega) ⟨[], a, b, rfl, by simp, rfl⟩
      · rintro i acc s ⟨es, a, b, rfl, _, rfl⟩
        exact src_live (live _ _ _ _)
      · rintro j v acc s hv ⟨es, a, b, rfl, hes, rfl⟩
        obtain ⟨x, hx, rfl⟩ : ∃ x, (sortT ms)[j]? = some x ∧ v = .str x := by
          unfold svs at hv
          rw [List.getElem?_map] at hv
          obtain ⟨x, hx, e⟩ := Option.map_eq_some_iff.mp hv
          exact ⟨x, hx, e.symm⟩
        have esl : es.length < lim := by
          have := hes.length_le
          rw [List.length_take] at this
          have := perm_sort (xs := ms).length_eq
          unfold lim
          omega
        simp [setTg, ok_var, wipeF, tgIx]
        refine take_okS hr (by decide) (by decide) fun v a4 b4 h0 h3 => ?_
        have e : (sortT ms).take (j + 1) = (sortT ms).take j ++ [x] := by rw [List.take_add_one, hx]; rfl
        rw [svs_len]
        by_cases hv : v < many
        · simp [hv, ok_var]
          exact ⟨esl, es ++ [x], by simp [svs], by rw [e]; exact hes.append (List.Sublist.refl _), _, _, rfl⟩
        · simp [hv]
          exact ⟨es, rfl, by rw [e]; exact hes.trans (List.sublist_append_left _ _), _, _, rfl⟩
      · rintro acc s ⟨es, a, b, rfl, hes, rfl⟩
        rw [svs_len, List.take_of_length_le (Nat.le_refl _)] at hes
        have hesl : es.length ≤ 6 := by
          have := hes.length_le
          have := perm_sort (xs := ms).length_eq
          omega
        -- the second one
        rw [okt_cons, okt_asg, ok_comp]
        simp [-okt_cons, ok_var]
        have live2 : ∀ a b (T : List Ob) o x (X : List Ob), (st.set r (feedO a b) ++ (tl ++ (Ob.lst (svs ms) :: Ob.lst (rs.map rowV) :: (T ++ o :: x :: X))))[st.length + (tl.length + (T.length + 1 + 1 + 1))]? = some x := fun a b T o x X => by
          rw [hk, List.getElem?_append_right (by omega), show tl.length + (T.length + 1 + 1 + 1) - tl.length = T.length + 1 + 1 + 1 by omega]
          simp
        rw [ok_srcV (xs := svs es) (live2 _ _ _ _ _ _)]
        refine ⟨rfl, ?_⟩
        rw [srcLen_live (xs := svs es) (live2 _ _ _ _ _ _), svs_len]
        refine ok_compN (xs := svs es) (fun i acc s => ∃ fs, acc = svs fs ∧ fs.Sublist (es.take i) ∧ nm ∉ fs ∧ s = ⟨st.set r (feedO a b) ++ (tl ++ (Ob.lst (svs ms) :: Ob.lst (rs.map rowV) :: (T ++ [Ob.lst (svs (sortT ms)), Ob.lst (svs es)]))), st.length⟩) ?_ ?_ ?_ _ 0 _ _ (by rw [svs_len]; omega) ⟨[], rfl, by simp, by simp, rfl⟩
        · rintro i acc s ⟨fs, rfl, _, _, rfl⟩
          exact src_live (live2 _ _ _ _ _ _)
        · rintro j v acc s hv ⟨fs, rfl, hfs, hno, rfl⟩
          obtain ⟨x, hx, rfl⟩ : ∃ x, es[j]? = some x ∧ v = .str x := by
            unfold svs at hv
            rw [List.getElem?_map] at hv
            obtain ⟨x, hx, e⟩ := Option.map_eq_some_iff.mp hv
            exact ⟨x, hx, e.symm⟩
          have fsl : fs.length < lim := by
            have := hfs.length_le
            rw [List.length_take] at this
            unfold lim
            omega
          have e : es.take (j + 1) = es.take j ++ [x] := by rw [List.take_add_one, hx]; rfl
          simp [setTg, ok_var, wipeF, tgIx]
          rw [svs_len]
          by_cases hv : x = nm
          · simp [hv]
            exact ⟨fs, rfl, by rw [e]; exact hfs.trans (List.sublist_append_left _ _), hno⟩
          · have hv2 : (x == nm) = false := by simpa using hv
            simp [hv2, ok_var]
            exact ⟨fsl, fs ++ [x], by simp [svs], by rw [e]; exact hfs.append (List.Sublist.refl _), by simp [hno]; exact fun e => hv e.symm⟩
        · rintro acc s ⟨fs, rfl, hfs, hno, rfl⟩
          rw [svs_len, List.take_of_length_le (Nat.le_refl _)] at hfs
          have hfsl : fs.length ≤ 6 := Nat.le_trans hfs.length_le hesl
          have hsub : fs.Sublist (sortT ms) := hfs.trans hes
          -- the ways
          rw [okt_cons, okt_asg, ok_bf, ok_cons, ok_comp]
          simp [-okt_cons, ok_var]
          have live3 : ∀ a b (T : List Ob) o o2 x (X : List Ob), (st.set r (feedO a b) ++ (tl ++ (Ob.lst (svs ms) :: Ob.lst (rs.map rowV) :: (T ++ o :: o2 :: x :: X))))[st.length + (tl.length + (T.length + 1 + 1 + 1 + 1))]? = some x := fun a b T o o2 x X => by
            rw [hk, List.getElem?_append_right (by omega), show tl.length + (T.length + 1 + 1 + 1 + 1) - tl.length = T.length + 1 + 1 + 1 + 1 by omega]
            simp
          rw [ok_srcV (xs := svs fs) (live3 _ _ _ _ _ _ _)]
          refine ⟨rfl, ?_⟩
          rw [srcLen_live (xs := svs fs) (live3 _ _ _ _ _ _ _), svs_len]
          refine ok_compN (xs := svs fs) (fun i acc s => ∃ ws a b, acc = ws.map wayV ∧ ws.map (·.1) = fs.take i ∧ (∀ x ∈ ws, 1 ≤ x.2 ∧ x.2 ≤ 3) ∧ s = ⟨st.set r (feedO a b) ++ (tl ++ (Ob.lst (svs ms) :: Ob.lst (rs.map rowV) :: (T ++ [Ob.lst (svs (sortT ms)), Ob.lst (svs es), Ob.lst (svs fs)]))), st.length⟩) ?_ ?_ ?_ _ 0 _ _ (by rw [svs_len]; omega) ⟨[], a, b, rfl, by simp, by simp, rfl⟩
          · rintro i acc s ⟨ws, a, b, rfl, _, _, rfl⟩
            exact src_live (live3 _ _ _ _ _ _ _)
          · rintro j v acc s hv ⟨ws, a, b, rfl, hws, hr3, rfl⟩
            obtain ⟨x, hx, rfl⟩ : ∃ x, fs[j]? = some x ∧ v = .str x := by
              unfold svs at hv
              rw [List.getElem?_map] at hv
              obtain ⟨x, hx, e⟩ := Option.map_eq_some_iff.mp hv
              exact ⟨x, hx, e.symm⟩
            have e : fs.take (j + 1) = fs.take j ++ [x] := by rw [List.take_add_one, hx]; rfl
            have wsl : ws.length < lim := by
              have := congrArg List.length hws
              rw [List.length_map, List.length_take] at this
              unfold lim
              omega
            simp [setTg, ok_var, wipeF, tgIx]
            refine take_okS hr (by decide) (by decide) fun v a4 b4 h0 h3 => ?_
            refine ⟨by decide, wsl, ws ++ [(x, 1 + v)], by simp [wayV], by rw [e]; simp [hws], ?_, _, _, rfl⟩
            intro y z hy
            simp at hy
            rcases hy with hy | ⟨rfl, rfl⟩
            · exact hr3 _ hy
            · omega
          · rintro acc s ⟨ws, a, b, rfl, hws, hr3, rfl⟩
            rw [svs_len, List.take_of_length_le (Nat.le_refl _)] at hws
            have hwl : ws.length ≤ 6 := by
              have := congrArg List.length hws
              rw [List.length_map] at this
              omega
            have fw : flat.flats (ws.map wayV) = true := flats_map fun x _ => flat_wayV
            have dw : dep.deps (ws.map wayV) ≤ 50 := deps_map fun x _ => by simp [wayV, dep, dep.deps]
            -- the row
            have good : ∀ (lm : Int) (sy : Bool), 0 ≤ lm → lm < 10 → (sy = true ∨ ws ≠ []) → GoodRow ms ⟨nm, lm, sy, ws⟩ := fun lm sy h0 h1 h2 => by
              refine ⟨hm.nm nm (List.mem_of_getElem? hi), ⟨h0, by show lm ≤ 9; omega⟩, h2, fun x hx => ?_, ?_⟩
              · have hx1 : x.1 ∈ fs := hws ▸ List.mem_map_of_mem hx
                have hx2 : x.1 ∈ ms := perm_sort.mem_iff.mp (hsub.mem hx1)
                exact ⟨hm.nm _ hx2, fun (e : x.1 = nm) => hno (e ▸ hx1), hx2, hr3 x hx⟩
              · show (ws.map (·.1)).Pairwise (· < ·)
                rw [hws]
                exact (sort_lt hm.nd).sublist hsub
            have last : ∀ (a b : Int) (X : List Ob) (sy : Bool) (y5 y8 y9 y10 : Option Val), (sy = true ∨ ws ≠ []) → OkT (exTs ⟨callN pgA wfA (d + 3), pgA, none, wfA⟩ (Ts.cons (.ex (.bm .append (.var 3) (Es.cons (.tup (Es.cons (.var 2) (Es.cons (.call F__law_take (Es.cons (.var 0) (Es.cons (.k (.int 10)) Es.nil))) (Es.cons (.var 7) (Es.cons (.var 6) Es.nil))))) Es.nil))) Ts.nil)
                [some (.ref r), some (.ref (st.length + tl.length)), some (.str nm), some (.ref (st.length + (tl.length + 1))), some (.int many), y5, some (.tup (ws.map wayV)), some (.bl sy), y8, y9, y10] ⟨st.set r (feedO a b) ++ (tl ++ (Ob.lst (svs ms) :: Ob.lst (rs.map rowV) :: X)), st.length⟩)
                (DrawnInv st tl r ms many (i + 1)) (fun v s2 => Ok (leave st.length w v) s2 P) := fun a b X sy y5 y8 y9 y10 hsy => by
              have hrl : rs.length < lim := by
                have := congrArg List.length hnm
                rw [List.length_map, List.length_take] at this
                unfold lim
                omega
              rw [okt_cons, okt_ex, ok_bm, ok_var (v := .ref (st.length + (tl.length + 1))) rfl, ok_bmChkR]
              refine ⟨rfl, _, hfound _ _ _ _ _, ?_⟩
              simp [ok_var]
              refine take_okS hr (by decide) (by decide) fun v a5 b5 h0 h3 => ?_
              have hobr : obRef (.lst (rs.map rowV ++ [.tup [.str nm, .int v, .bl sy, .tup (ws.map wayV)]])) = false := by
                have := noRefs_flat (flats_map (f := rowV) (xs := rs ++ [⟨nm, v, sy, ws⟩]) fun x _ => flat_rowV)
                rw [List.map_append] at this
                exact this
              refine ⟨by decide, _, hfound _ _ _ _ _, by simpa using hrl, ?_⟩
              refine ⟨rs ++ [⟨nm, v, sy, ws⟩], a5, b5, X, _, _, _, _, _, _, _, rfl, ?_, ?_, ?_⟩
              · rw [hobr]
                have e1 := ssk (a := st.set r (feedO a5 b5)) (b := tl ++ Ob.lst (svs ms) :: Ob.lst (List.map rowV rs) :: X) (k := tl.length + 1) (o := Ob.lst (List.map rowV rs ++ [Val.tup [Val.str nm, Val.int v, Val.bl sy, Val.tup (List.map wayV ws)]]))
                rw [hlen] at e1
                show S.mk _ _ = _
                congr 1
                rw [e1, ssk]
                simp [rowV, waysV]
              · rw [List.map_append, hnm, List.take_add_one, hi]
                rfl
              · intro x hx
                rcases List.mem_append.mp hx with hx | hx
                · exact hgood x hx
                · rw [List.mem_singleton.mp hx]
                  exact good v sy h0 h3 hsy
            simp only [List.append_assoc, List.cons_append]
            rw [okt_cons]
            simp [-okt_cons, ok_var]
            rw [ok_eqNilT fw dw]
            cases hem : (ws.map wayV).isEmpty with
            | true =>
              simp only [if_true]
              exact last _ _ _ true _ _ _ _ (.inl rfl)
            | false =>
              simp only [Bool.false_eq_true, if_false]
              have hne : ws ≠ [] := fun e => by rw [e] at hem; cases hem
              refine take_okS hr (by decide) (by decide) fun v a4 b4 h0 h3 => ?_
              rw [ok_eqI]
              exact last _ _ _ _ _ _ _ _ (.inr hne)
    · rintro fr s ⟨rs, a, b, T, x2, x5, x6, x7, x8, x9, x10, rfl, rfl, hnm, hgood⟩
      rw [svs_len, List.take_of_length_le (Nat.le_refl _)] at hnm
      rw [okt_cons, okt_ret, ok_var (v := .ref (st.length + (tl.length + 1))) rfl]
      have gr : GoodRows rs := by
        have hrl : rs.length = ms.length := by
          have := congrArg List.length hnm
          rwa [List.length_map] at this
        refine ⟨fun e => ?_, by omega, fun x hx => ?_, ?_⟩
        · rw [e] at hrl
          simp at hrl
          omega
        · rw [hnm]
          exact hgood x hx
        · rw [hnm]
          exact hm.nd
      refine (ok_leaveR (o := .lst (rs.map rowV)) (Nat.le_refl _) (Nat.le_add_right _ _) (hfound _ _ _ _ _) (noRefs_flat (flats_map fun x _ => flat_rowV))).mpr ?_
      rw [List.take_left' (by simp)]
      exact q rs a b gr
  have start : OkT (exTs ⟨callN pgA wfA (d + 3), pgA, none, wfA⟩ d__law_drawn.body [some (.ref r), none, none, none, none, none, none, none, none, none, none] ⟨st.set r (feedO a b) ++ [], st.length⟩) (fun _ s2 => Ok (leave st.length w .non) s2 P) (fun v s2 => Ok (leave st.length w v) s2 P) := by
    simp only [d__law_drawn]
    rw [okt_cons]
    simp [-okt_cons, ok_var]
    refine ⟨by decide, by decide, ?_⟩
    refine pick_okS (k := 2) (xs := [.ref st.length, .ref (st.length + 1)]) hr rfl (by simp) (by simp) ?_ ?_
    · intro v hv
      simp at hv
      rcases hv with rfl | rfl
      · exact .inr ⟨_, rfl, by simp⟩
      · exact .inr ⟨_, rfl, by simp⟩
    · intro v a2 b2 hv
      have key : ∃ (ns : List Tx) (k : Nat), Names ns ∧ v = .ref (st.length + k) ∧ ([Ob.lst (svs nsA), .lst (svs nsB), .lst [.ref st.length, .ref (st.length + 1)]] : List Ob)[k]? = some (.lst (svs ns)) := by
        simp at hv
        rcases hv with rfl | rfl
        · exact ⟨nsA, 0, names_A, rfl, rfl⟩
        · exact ⟨nsB, 1, names_B, rfl, rfl⟩
      obtain ⟨ns, k, hns, rfl, hk⟩ := key
      rw [okt_cons, okt_ite]
      simp [-okt_cons, ok_var]
      refine take_okS hr (by decide) (by decide) fun v a3 b3 h0 h3 => ?_
      simp [-okt_cons]
      by_cases hv0 : v = 0
      · rw [if_pos hv0]
        rw [okt_cons, okt_asg, ok_rev, ok_bf, ok_cons, ok_comp, ok_cons, ok_k, ok_nil]
        rw [show (Val.int 6) = Val.int ((6 : Nat) : Int) from rfl, ok_srcR (show 6 < 1000000 by decide)]
        refine ⟨rfl, ?_⟩
        obtain ⟨TL, hTL⟩ : ∃ TL : List Ob, TL = [Ob.lst (svs nsA), .lst (svs nsB), .lst [.ref st.length, .ref (st.length + 1)]] := ⟨_, rfl⟩
        have fold : ∀ a b, (st.set r (feedO a b) ++ [Ob.lst [Val.str [98], Val.str [97], Val.str [100], Val.str [99], Val.str [102], Val.str [101]], Ob.lst [Val.str [115, 116, 97, 121], Val.str [97, 98], Val.str [98], Val.str [97], Val.str [97, 98, 99, 100, 101, 102, 103, 104], Val.str [122]], Ob.lst [Val.ref st.length, Val.ref (st.length + 1)]]) = st.set r (feedO a b) ++ TL := fun a b => by rw [hTL]; rfl
        rw [fold]
        refine ok_compN (xs := rngV 6) (fun i acc s => ∃ ws a b, acc = svs ws ∧ ws.length = i ∧ (∀ x ∈ ws, isWord x) ∧ s = ⟨st.set r (feedO a b) ++ TL, st.length⟩) (fun i acc s _ => src_rng) ?_ ?_ 6 0 _ _ (by rw [rngV_len]) ⟨[], a3, b3, rfl, rfl, by simp, rfl⟩
        · rintro i v acc s hv ⟨ws, a4, b4, rfl, hwl, hws, rfl⟩
          have hi : i < 6 := by have := (List.getElem?_eq_some_iff.mp hv).1; rwa [rngV_len] at this
          rw [turn_no rfl]
          simp [ok_var, wipeF, tgIx]
          refine word_okS hr fun x a5 b5 hx => ?_
          refine ⟨by rw [svs_len]; unfold lim; omega, ws ++ [x], by simp [svs], by simp [hwl], fun y hy => ?_, _, _, rfl⟩
          rcases List.mem_append.mp hy with hy | hy
          · exact hws y hy
          · rw [List.mem_singleton.mp hy]; exact hx
        · rintro acc s ⟨ws, a4, b4, rfl, hwl, hws, rfl⟩
          rw [rngV_len] at hwl
          have h64 : (svs ws).length < 64 := by rw [svs_len]; omega
          simp [-okt_cons, hk, h64]
          refine tail2 (sortT (dedT ws)).reverse _ _ _ _ (Names.of_words (by omega) (by omega) hws) ?_
          simp [svs]
      · rw [if_neg hv0]
        exact tail2 ns _ k _ _ hns hk
  rw [← e0] at start
  exact start
end PI.MX
end

section
set_option Elab.async false
set_option linter.all false
set_option maxRecDepth 100000
/-! PyA2: runs that may end with an error (for the later laws). -/
namespace PI.MX
inductive OkE {α : Type} (m : M α) (s : S) (Q : α → S → Prop) (E : Ex → S → Prop) : Prop
  | mk (h : match m s with | .ok a s' => Q a s' | .ex x s' => E x s' | .bad => False) : OkE m s Q E
theorem OkE_def {α : Type} {m : M α} {s : S} {Q : α → S → Prop} {E : Ex → S → Prop} : OkE m s Q E ↔ (match m s with | .ok a s' => Q a s' | .ex x s' => E x s' | .bad => False) := ⟨fun ⟨h⟩ => h, fun h => ⟨h⟩⟩
inductive OkTE (r : RS) (N : Fr → S → Prop) (Rt : Val → S → Prop) (X : Ex → Fr → S → Prop) : Prop
  | mk (h : match r with | .nx fr s => N fr s | .rt v s => Rt v s | .ex x fr s => X x fr s | .bad => False) : OkTE r N Rt X
theorem OkTE_def {r : RS} {N : Fr → S → Prop} {Rt : Val → S → Prop} {X : Ex → Fr → S → Prop} : OkTE r N Rt X ↔ (match r with | .nx fr s => N fr s | .rt v s => Rt v s | .ex x fr s => X x fr s | .bad => False) := ⟨fun ⟨h⟩ => h, fun h => ⟨h⟩⟩
section
variable {α : Type} {m : M α} {s : S} {Q : α → S → Prop} {E : Ex → S → Prop} {r : RS} {N : Fr → S → Prop} {Rt : Val → S → Prop} {X : Ex → Fr → S → Prop} {g : G} {fr : Fr}
theorem OkE.of (h : Ok m s Q) : OkE m s Q E := by
  rw [Ok_def] at h
  refine OkE_def.mpr ?_
  cases e : m s with
  | ok a s2 => rw [e] at h; exact h
  | ex x s2 => rw [e] at h; exact h.elim
  | bad => rw [e] at h; exact h.elim
theorem OkTE.of (h : OkT r N Rt) : OkTE r N Rt X := by
  rw [OkT_def] at h
  refine OkTE_def.mpr ?_
  cases r <;> first | exact h | exact h.elim
theorem okE_bnd {β : Type} {f : α → M β} {Q2 : β → S → Prop} (h : OkE m s (fun a s1 => OkE (f a) s1 Q2 E) E) : OkE (bnd m f) s Q2 E := by
  rw [OkE_def] at h ⊢
  unfold bnd
  cases e : m s with
  | ok a s2 => rw [e] at h; exact OkE_def.mp h
  | ex x s2 => rw [e] at h; exact h
  | bad => rw [e] at h; exact h
theorem okE_wE {k : α → S → RS} (h : OkE m s (fun a s1 => OkTE (k a s1) N Rt X) (fun x s1 => X x fr s1)) : OkTE (wE m fr k s) N Rt X := by
  rw [OkE_def] at h
  refine OkTE_def.mpr ?_
  unfold wE
  cases e : m s with
  | ok a s2 => rw [e] at h; exact OkTE_def.mp h
  | ex x s2 => rw [e] at h; exact h
  | bad => rw [e] at h; exact h
theorem okE_cons {t : T} {q : Ts} (h : OkTE (exT g t fr s) (fun fr2 s2 => OkTE (exTs g q fr2 s2) N Rt X) Rt X) : OkTE (exTs g (.cons t q) fr s) N Rt X := by
  rw [OkTE_def] at h
  refine OkTE_def.mpr ?_
  simp only [exTs]
  cases e : exT g t fr s with
  | nx fr2 s2 => rw [e] at h; exact OkTE_def.mp h
  | rt v s2 => rw [e] at h; exact h
  | ex x fr2 s2 => rw [e] at h; exact h
  | bad => rw [e] at h; exact h
theorem okE_nil (h : N fr s) : OkTE (exTs g .nil fr s) N Rt X := OkTE_def.mpr h
theorem okE_seq {t : T} {q : Ts} (h : OkT (exT g t fr s) (fun fr2 s2 => OkTE (exTs g q fr2 s2) N Rt X) Rt) : OkTE (exTs g (.cons t q) fr s) N Rt X := okE_cons (OkTE.of h)
theorem okE_ite {c : PI.E} {a b : Ts} (h : Ok (ev g fr c) s fun x s1 => Ok (truth x) s1 fun k s2 => if k = true then OkTE (exTs g a fr s2) N Rt X else OkTE (exTs g b fr s2) N Rt X) : OkTE (exT g (.ite c a b) fr s) N Rt X := by
  simp only [exT]
  refine okE_wE (OkE.of ?_)
  rw [ok_bnd]
  refine ok_mono h fun x s1 h => ok_mono h fun k s2 h => ?_
  cases k
  · rw [if_neg Bool.false_ne_true] at h
    exact h
  · rw [if_pos rfl] at h
    exact h
theorem okE_raise {c : Nat} {e : PI.E} (hn : ∀ s, exT g (.raise c e) fr s = wE (ev g fr e) fr (fun v s => .ex ⟨c, some v⟩ fr s) s) (h : Ok (ev g fr e) s fun v s1 => X ⟨c, some v⟩ fr s1) : OkTE (exT g (.raise c e) fr s) N Rt X := by
  rw [hn]
  exact okE_wE (OkE.of (ok_mono h fun v s1 q => OkTE_def.mpr q))
theorem okE_loop {t : Tg} {k : Ik} {src : Es} {b : Ts} (h : Ok (evs g fr src) s fun vs s1 => Ok (srcOf k vs) s1 fun q s2 => tgOk t q = true ∧ OkTE (forN (exTs g b) t q (srcLen q s2) 0 fr s2) N Rt X) : OkTE (exT g (.loop t k src b) fr s) N Rt X := by
  simp only [exT]
  refine okE_wE (OkE.of ?_)
  rw [ok_bnd]
  refine ok_mono h fun vs s1 h => ok_mono h fun q s2 h => ?_
  obtain ⟨h1, h2⟩ := h
  rw [h1]
  exact h2
theorem okE_forN {body : Fr → S → RS} {t : Tg} {q : Src} {xs : List Val} (Inv : Nat → Fr → S → Prop) (hs : ∀ i fr s, Inv i fr s → srcAt q i s = .ok xs[i]? s)
    (step : ∀ i v fr s, xs[i]? = some v → Inv i fr s → ∃ fr2, setTgS s t v fr = some fr2 ∧ OkTE (body fr2 s) (Inv (i + 1)) Rt X) (fin : ∀ fr s, Inv xs.length fr s → N fr s) :
    ∀ (m i : Nat) (fr : Fr) (s : S), i + m = xs.length → Inv i fr s → OkTE (forN body t q m i fr s) N Rt X
  | 0, i, fr, s, hm, hi => by
    have e : i = xs.length := by omega
    subst e
    unfold forN
    refine okE_wE (OkE_def.mpr ?_)
    rw [hs _ fr s hi]
    simp only [List.getElem?_eq_none (Nat.le_refl _)]
    exact OkTE_def.mpr (fin fr s hi)
  | m + 1, i, fr, s, hm, hi => by
    have hl : i < xs.length := by omega
    unfold forN
    refine okE_wE (OkE_def.mpr ?_)
    rw [hs _ fr s hi]
    simp only [List.getElem?_eq_getElem hl]
    obtain ⟨fr2, e, h⟩ := step i xs[i] fr s (List.getElem?_eq_getElem hl) hi
    rw [e]
    simp only
    rw [OkTE_def] at h
    cases z : body fr2 s with
    | nx fr3 s3 => rw [z] at h; exact okE_forN Inv hs step fin m (i + 1) fr3 s3 (by omega) h
    | rt v s3 => rw [z] at h; exact OkTE_def.mpr h
    | ex x fr3 s3 => rw [z] at h; exact OkTE_def.mpr h
    | bad => rw [z] at h; exact h.elim
theorem okE_callN {pg : Pg} {wf d f : Nat} {df : Df} {vs : List Val} {st : List Ob} {w : Nat} {P : Val → S → Prop} (h : pg.fs f = some df) (hl : vs.length = df.np)
    (hq : OkTE (exTs ⟨callN pg wf d, pg, none, wf⟩ df.body (vs.map some ++ List.replicate (df.ns - df.np) none) ⟨st, st.length⟩) (fun _ s2 => Ok (leave st.length w .non) s2 P) (fun v s2 => Ok (leave st.length w v) s2 P)
      (fun x _ s2 => (x.arg.map hasRef).getD false = false ∧ st.length ≤ s2.w ∧ E x ⟨s2.st.take st.length, w⟩)) : OkE (callN pg wf (d + 1) f vs) ⟨st, w⟩ P E := by
  refine OkE_def.mpr ?_
  have e : callN pg wf (d + 1) f vs ⟨st, w⟩ = (match exTs ⟨callN pg wf d, pg, none, wf⟩ df.body (vs.map some ++ List.replicate (df.ns - df.np) none) ⟨st, st.length⟩ with
        | .nx _ s2 => leave st.length w .non s2
        | .rt v s2 => leave st.length w v s2
        | .ex x _ s2 => leaveX st.length w x s2
        | .bad => .bad) := by
    show (match pg.fs f with
      | some df => _
      | none => _) = _
    rw [h]
    simp only
    rw [if_pos hl] <;> rfl
  rw [e]
  rw [OkTE_def] at hq
  cases q : exTs ⟨callN pg wf d, pg, none, wf⟩ df.body (vs.map some ++ List.replicate (df.ns - df.np) none) ⟨st, st.length⟩ with
  | nx fr2 s2 => rw [q] at hq; exact OkE_def.mp (OkE.of hq)
  | rt v s2 => rw [q] at hq; exact OkE_def.mp (OkE.of hq)
  | ex x fr2 s2 =>
    rw [q] at hq
    obtain ⟨e1, e2, e3⟩ := hq
    simp only [leaveX, e1]
    rw [if_pos (by simp [e2])]
    exact e3
  | bad => rw [q] at hq; exact hq.elim
/-- try: the error is caught -/
theorem okt_tr {b su : Ts} {c : Nat} {nm : Option Nat} (h : OkTE (exTs g b fr s) N Rt (fun x fr2 s2 => exIs g.pg x.cls c = some true ∧ OkT (exTs (g.mark x) su (clr nm fr2) s2) (fun fr3 s3 => N (clr nm fr3) s3) Rt)) : OkT (exT g (.tr b c nm su) fr s) N Rt := by
  rw [OkTE_def] at h
  refine OkT_def.mpr ?_
  simp only [exT]
  cases e : exTs g b fr s with
  | nx fr2 s2 => rw [e] at h; exact h
  | rt v s2 => rw [e] at h; exact h
  | bad => rw [e] at h; exact h.elim
  | ex x fr2 s2 =>
    rw [e] at h
    obtain ⟨h1, h2⟩ := h
    simp only [h1]
    rw [OkT_def] at h2
    cases e2 : exTs (g.mark x) su (clr nm fr2) s2 with
    | nx fr3 s3 => rw [e2] at h2; exact h2
    | rt v s3 => rw [e2] at h2; exact h2
    | ex y fr3 s3 => rw [e2] at h2; exact h2.elim
    | bad => rw [e2] at h2; exact h2.elim
theorem okE_asg {i : Nat} {e : PI.E} (h : OkE (ev g fr e) s (fun v s1 => N (fr.set i (some v)) s1) (fun x s1 => X x fr s1)) : OkTE (exT g (.asg (.var i) e) fr s) N Rt X := by
  simp only [exT]
  refine okE_wE ?_
  rw [OkE_def] at h ⊢
  cases z : ev g fr e s with
  | ok v s2 => rw [z] at h; exact OkTE_def.mpr h
  | ex x s2 => rw [z] at h; exact h
  | bad => rw [z] at h; exact h
theorem okE_call {f : Nat} {es : Es} {Q : Val → S → Prop} (h : Ok (evs g fr es) s fun vs s1 => OkE (g.call f vs) s1 Q E) : OkE (ev g fr (.call f es)) s Q E := by
  simp only [ev]
  exact okE_bnd (OkE.of h)
end
theorem okE_ok {α : Type} {m : M α} {s : S} {Q : α → S → Prop} (h : OkE m s Q fun _ _ => False) : Ok m s Q := by
  rw [OkE_def] at h
  refine Ok_def.mpr ?_
  cases e : m s with
  | ok a s2 => rw [e] at h; exact h
  | ex x s2 => rw [e] at h; exact h
  | bad => rw [e] at h; exact h
theorem ok_xat {g : G} {fr : Fr} {s : S} {f : PySem.Str} {c : Nat} {v : Val} {Q : Val → S → Prop} (hx : g.hx = some ⟨c, some v⟩) (hf : (g.pg.cs c).bind (·.xf) = some f) (q : Q v s) : Ok (ev g fr (.xat f)) s Q := by
  simp only [ev, hx]
  rw [ok_chk, ok_ret]
  exact ⟨decide_eq_true hf, q⟩
theorem okE_ex {g : G} {fr : Fr} {s : S} {e : PI.E} {N : Fr → S → Prop} {Rt : Val → S → Prop} {X : Ex → Fr → S → Prop} (h : OkE (ev g fr e) s (fun _ s1 => N fr s1) (fun x s1 => X x fr s1)) : OkTE (exT g (.ex e) fr s) N Rt X := by
  simp only [exT]
  refine okE_wE ?_
  rw [OkE_def] at h ⊢
  cases z : ev g fr e s with
  | ok v s2 => rw [z] at h; exact OkTE_def.mpr h
  | ex x s2 => rw [z] at h; exact h
  | bad => rw [z] at h; exact h
theorem ok_isi1 {g : G} {fr : Fr} {s : S} {a : E} {t : Ty} {b : Bool} {v : Val} {Q : Val → S → Prop} (ha : ∀ P : Val → S → Prop, Ok (ev g fr a) s P ↔ P v s) (h : tyIs g.pg s v t = some b) : Ok (ev g fr (.isi a [t])) s Q ↔ Q (.bl b) s := by
  rw [ok_isi, ha]
  have e : [t].mapM (tyIs g.pg s v) = some [b] := by rw [List.mapM_cons, h]; rfl
  rw [e]
  constructor
  · rintro ⟨bs, e2, q⟩
    cases e2
    simpa using q
  · intro q
    exact ⟨_, rfl, by simpa using q⟩
end PI.MX
end

section
set_option Elab.async false
set_option linter.all false
set_option maxRecDepth 100000
/-! PyA3: two clauses, loops over two things, a choice that may raise. -/
namespace PI.MX
theorem okt_cut {g : G} {t : T} {r : Ts} {fr : Fr} {s : S} {N : Fr → S → Prop} {Rt : Val → S → Prop} (N' : Fr → S → Prop) (h : OkT (exT g t fr s) N' Rt) (k : ∀ fr s, N' fr s → OkT (exTs g r fr s) N Rt) : OkT (exTs g (.cons t r) fr s) N Rt := by
  rw [okt_cons]
  exact okt_mono h k
/-- try within a clause list: the error is caught here or goes on -/
theorem okE_tr {g : G} {fr : Fr} {s : S} {N : Fr → S → Prop} {Rt : Val → S → Prop} {X : Ex → Fr → S → Prop} {b su : Ts} {c : Nat} {nm : Option Nat}
    (h : OkTE (exTs g b fr s) N Rt (fun x fr2 s2 => (exIs g.pg x.cls c = some true ∧ OkT (exTs (g.mark x) su (clr nm fr2) s2) (fun fr3 s3 => N (clr nm fr3) s3) Rt) ∨ (exIs g.pg x.cls c = some false ∧ X x fr2 s2))) : OkTE (exT g (.tr b c nm su) fr s) N Rt X := by
  rw [OkTE_def] at h
  refine OkTE_def.mpr ?_
  simp only [exT]
  cases e : exTs g b fr s with
  | nx fr2 s2 => rw [e] at h; exact h
  | rt v s2 => rw [e] at h; exact h
  | bad => rw [e] at h; exact h.elim
  | ex x fr2 s2 =>
    rw [e] at h
    rcases h with ⟨h1, h2⟩ | ⟨h1, h2⟩
    · simp only [h1]
      rw [OkT_def] at h2
      cases e2 : exTs (g.mark x) su (clr nm fr2) s2 with
      | nx fr3 s3 => rw [e2] at h2; exact h2
      | rt v s3 => rw [e2] at h2; exact h2
      | ex y fr3 s3 => rw [e2] at h2; exact h2.elim
      | bad => rw [e2] at h2; exact h2.elim
    · simp only [h1]
      exact h2
/-- a loop over two things -/
theorem okt_two {body : Fr → S → RS} {i : Nat} {a b : Val} {fr : Fr} {s : S} {N : Fr → S → Prop} {Rt : Val → S → Prop} (A : Fr → S → Prop) (h1 : OkT (body (fr.set i (some a)) s) A Rt) (h2 : ∀ fr s, A fr s → OkT (body (fr.set i (some b)) s) N Rt) :
    OkT (forN body (.var i) (.items [a, b]) 2 0 fr s) N Rt := by
  refine okt_forN (xs := [a, b]) (fun n fr2 s2 => (n = 0 ∧ fr2 = fr ∧ s2 = s) ∨ (n = 1 ∧ A fr2 s2) ∨ (n = 2 ∧ N fr2 s2)) (fun i fr s _ => src_items) ?_ ?_ 2 0 fr s rfl (.inl ⟨rfl, rfl, rfl⟩)
  · rintro n v fr2 s2 hv (⟨rfl, rfl, rfl⟩ | ⟨rfl, h⟩ | ⟨rfl, h⟩)
    · cases hv
      exact ⟨_, rfl, okt_mono h1 fun fr s h => .inr (.inl ⟨rfl, h⟩)⟩
    · cases hv
      exact ⟨_, rfl, okt_mono (h2 _ _ h) fun fr s h => .inr (.inr ⟨rfl, h⟩)⟩
    · cases hv
  · rintro fr2 s2 (⟨e, _⟩ | ⟨e, _⟩ | ⟨_, h⟩)
    · cases e
    · cases e
    · exact h
/-- a comprehension over two things -/
theorem ok_two2 {step : Val → M (Option Val)} {a b : Val} {s : S} {P : List Val → S → Prop} (A : Val → S → Prop) (h1 : Ok (step a) s fun y s2 => ∃ x, y = some x ∧ A x s2) (h2 : ∀ x s2, A x s2 → Ok (step b) s2 fun y s3 => ∃ z, y = some z ∧ P [x, z] s3) : Ok (compN step (.items [a, b]) 2 0 []) s P := by
  refine ok_compN (xs := [a, b]) (fun n acc s2 => (n = 0 ∧ acc = [] ∧ s2 = s) ∨ (n = 1 ∧ ∃ x, acc = [x] ∧ A x s2) ∨ (n = 2 ∧ P acc s2)) (fun i acc s _ => src_items) ?_ ?_ 2 0 [] s rfl (.inl ⟨rfl, rfl, rfl⟩)
  · rintro n v acc s2 hv (⟨rfl, rfl, rfl⟩ | ⟨rfl, x, rfl, h⟩ | ⟨rfl, h⟩)
    · cases hv
      refine ok_mono h1 ?_
      rintro y s3 ⟨x, rfl, h⟩
      exact ⟨by decide, .inr (.inl ⟨rfl, x, rfl, h⟩)⟩
    · cases hv
      refine ok_mono (h2 x s2 h) ?_
      rintro y s3 ⟨z, rfl, h⟩
      exact ⟨by simp; decide, .inr (.inr ⟨rfl, h⟩)⟩
    · cases hv
  · rintro acc s2 (⟨e, _⟩ | ⟨e, _⟩ | ⟨_, h⟩)
    · cases e
    · cases e
    · exact h
/-- a choice between two values, one of which may raise -/
theorem okE_choice {g : G} {fr : Fr} {s : S} {c a b : PI.E} {Q : Val → S → Prop} {E : Ex → S → Prop} (h : Ok (ev g fr c) s fun x s1 => Ok (truth x) s1 fun k s2 => if k = true then OkE (ev g fr a) s2 Q E else OkE (ev g fr b) s2 Q E) : OkE (ev g fr (.ite c a b)) s Q E := by
  simp only [ev]
  refine okE_bnd (OkE.of (ok_mono h fun x s1 h => okE_bnd (OkE.of (ok_mono h fun k s2 h => ?_))))
  cases k
  · rw [if_neg Bool.false_ne_true] at h
    exact h
  · rw [if_pos rfl] at h
    exact h
theorem ok_leaveK {T : List Ob} {b w0 w' r : Nat} {o : Ob} {P : Val → S → Prop} (hw : b ≤ w') (hr : b ≤ r) (ho : T[r]? = some o) (hv : obRef o = true) (q : P (.ref r) ⟨T, w0⟩) : Ok (leave b w0 (.ref r)) ⟨T, w'⟩ P := by
  have key : leave b w0 (.ref r) ⟨T, w'⟩ = .ok (.ref r) ⟨T, w0⟩ := by
    unfold leave
    simp [hw, ho, hv, Nat.not_lt.mpr hr]
  exact (ok_of key).mpr q
end PI.MX
end

section
set_option Elab.async false
set_option linter.all false
set_option maxRecDepth 100000
/-! PyF0: texts of any kind read: the first row that is not right (k02). -/
namespace PI.MX
/-- the first row that is not right -/
def firstBad (fs : List Tx) : Nat → List Tx → Option Nat
  | _, [] => none
  | i, r :: rs => if (decide (i < 6) && (rowW (splitT 32 [] r) fs i).isSome) = true then firstBad fs (i + 1) rs else some i
def strB : Val → Bool
  | .str _ => true
  | _ => false
def badIn (text : Tx) : Option Nat := firstBad ((splitT 10 [] text).map firstW) 0 (splitT 10 [] text)
theorem noref_w' {o : Ob} {w r : Nat} (h : obRef o = false) : (if obRef o = true then min w r else w) = w := by rw [h]; rfl
theorem badIn_nil : badIn [] = some 0 := by decide
theorem okE_mono {α : Type} {m : M α} {s : S} {Q Q2 : α → S → Prop} {E E2 : Ex → S → Prop} (h : OkE m s Q E) (k : ∀ a s, Q a s → Q2 a s) (k2 : ∀ x s, E x s → E2 x s) : OkE m s Q2 E2 := by
  rw [OkE_def] at h ⊢
  cases e : m s with
  | ok a s2 => rw [e] at h; exact k _ _ h
  | ex x s2 => rw [e] at h; exact k2 _ _ h
  | bad => rw [e] at h; exact h
theorem okE_ret {g : G} {fr : Fr} {s : S} {e : PI.E} {N : Fr → S → Prop} {Rt : Val → S → Prop} {X : Ex → Fr → S → Prop} (h : OkE (ev g fr e) s Rt (fun x s1 => X x fr s1)) : OkTE (exT g (.ret e) fr s) N Rt X := by
  simp only [exT]
  refine okE_wE (okE_mono h (fun v s1 k => OkTE_def.mpr k) fun _ _ k => k)
theorem okE_evs1 {g : G} {fr : Fr} {s : S} {e : PI.E} {Q : List Val → S → Prop} {X : Ex → S → Prop} (h : OkE (ev g fr e) s (fun v s1 => Q [v] s1) X) : OkE (evs g fr (.cons e .nil)) s Q X := by
  simp only [evs]
  exact okE_bnd (okE_mono h (fun v s1 k => OkE.of (by simpa [ok_bnd, ok_ret] using k)) fun _ _ k => k)
section
variable {d w : Nat} {st : List Ob} {P : Val → S → Prop} {Y : Ex → S → Prop}
theorem read_rows_odd {v : Val} (hv : ∀ w, tyIs pgA ⟨st, w⟩ v .str = some (strB v)) (h0 : ∀ t, v = .str t → t = []) (q : Y ⟨C_InvalidText, some (.int 0)⟩ ⟨st, w⟩) : OkE (callN pgA wfA (d + 4) F_read_rows [v]) ⟨st, w⟩ P Y := by
  refine okE_callN (df := d_read_rows) rfl rfl ?_
  simp only [d_read_rows]
  have out : OkTE (exTs ⟨callN pgA wfA (d + 3), pgA, none, wfA⟩ (Ts.cons (T.raise C_InvalidText (E.k (Val.int 0))) Ts.nil) [some v, none, none, none, none, none, none] ⟨st, st.length⟩) (fun fr2 s2 => False) (fun v s2 => Ok (leave st.length w v) s2 P) (fun x _ s2 => (x.arg.map hasRef).getD false = false ∧ st.length ≤ s2.w ∧ Y x ⟨s2.st.take st.length, w⟩) := by
    refine okE_cons (okE_raise (fun s => rfl) ?_)
    rw [ok_k]
    refine ⟨rfl, Nat.le_refl _, ?_⟩
    show Y _ ⟨st.take st.length, w⟩
    rw [List.take_length]
    exact q
  have out2 : ∀ N, OkTE (exTs ⟨callN pgA wfA (d + 3), pgA, none, wfA⟩ (Ts.cons (T.raise C_InvalidText (E.k (Val.int 0))) Ts.nil) [some v, none, none, none, none, none, none] ⟨st, st.length⟩) N (fun v s2 => Ok (leave st.length w v) s2 P) (fun x _ s2 => (x.arg.map hasRef).getD false = false ∧ st.length ≤ s2.w ∧ Y x ⟨s2.st.take st.length, w⟩) := fun N => by
    rw [OkTE_def] at out ⊢
    cases e : exTs ⟨callN pgA wfA (d + 3), pgA, none, wfA⟩ (Ts.cons (T.raise C_InvalidText (E.k (Val.int 0))) Ts.nil) [some v, none, none, none, none, none, none] ⟨st, st.length⟩ with
    | nx fr s2 => rw [e] at out; exact out.elim
    | rt v s2 => rw [e] at out; exact out
    | ex x fr s2 => rw [e] at out; exact out
    | bad => rw [e] at out; exact out
  refine okE_cons (okE_ite ?_)
  rw [ok_or, ok_not, ok_isi1 (v := v) (fun P => ok_var rfl) (hv _), ok_truth, ok_truth]
  by_cases hs : ∃ t, v = .str t
  · obtain ⟨t, rfl⟩ := hs
    rw [show strB (.str t) = true from rfl, Bool.not_true, if_neg Bool.false_ne_true, ok_cmp, ok_var (v := .str t) rfl, ok_k, ok_eqS, ok_truth, h0 t rfl]
    rw [if_pos (show (([] : Tx) == []) = true from rfl)]
    have := h0 t rfl
    subst this
    exact out2 _
  · have e : strB v = false := by cases v <;> first | rfl | exact absurd ⟨_, rfl⟩ hs
    rw [e, Bool.not_false, if_pos rfl, ok_truth, if_pos rfl]
    exact out2 _
theorem read_rows_gen {text : Tx} (ht : text ≠ []) (hl : text.length + 2 ≤ lim) (q1 : ∀ rs : List Row, badIn text = none → readsAs (splitT 10 [] text) rs → P (.ref st.length) ⟨st ++ [.lst (rs.map rowV)], w⟩)
    (q2 : ∀ i : Nat, badIn text = some i → Y ⟨C_InvalidText, some (.int i)⟩ ⟨st, w⟩) : OkE (callN pgA wfA (d + 4) F_read_rows [.str text]) ⟨st, w⟩ P Y := by
  refine okE_callN (df := d_read_rows) rfl rfl ?_
  obtain ⟨rows, hrows⟩ : ∃ rows, rows = splitT 10 [] text := ⟨_, rfl⟩
  have hm : ∀ x ∈ rows, x.length + 2 ≤ lim := fun x hx => by
    rw [hrows] at hx
    have := splitT_mem hx
    simp at this
    omega
  have rl : rows.length ≤ lim := by
    rw [hrows]
    have := splitT_len (c := 10) (s := text) (acc := [])
    omega
  unfold badIn at q1 q2
  rw [← hrows] at q1 q2
  simp only [d_read_rows]
  refine okE_seq ?_
  rw [okt_ite, ok_or, ok_not, ok_isi1 (v := .str text) (fun P => ok_var rfl) (b := true) rfl, ok_truth, ok_truth, Bool.not_true, if_neg Bool.false_ne_true, ok_cmp, ok_var (v := .str text) rfl, ok_k, ok_eqS, ok_truth, if_neg (by simpa using ht), okt_nil]
  refine okE_seq ?_
  rw [okt_par, ok_bm, ok_var (v := .str text) rfl]
  simp [-okt_cons, ok_var, hl, ← hrows]
  refine okE_seq ?_
  rw [okt_asg, ok_comp]
  simp [-okt_cons, ok_var]
  rw [ok_srcV (xs := svs rows) (lkp (k := 0) rfl rfl)]
  refine ⟨rfl, ?_⟩
  rw [srcLen_live (xs := svs rows) (lkp (k := 0) rfl rfl)]
  refine ok_compG firstV (fun i tl => src_live (by rw [List.append_assoc]; exact lkp (k := 0) rfl rfl)) ?_ (by rw [svs_len]; exact rl) ?_
  · intro v hv tl
    obtain ⟨x, hx, rfl⟩ := List.mem_map.mp hv
    have hx2 := hm x hx
    rw [turn_no rfl]
    obtain ⟨a, r, e⟩ : ∃ a r, splitT 32 [] x = a :: r := List.exists_cons_of_ne_nil splitT_ne
    simp [ok_var, wipeF, tgIx, hx2, e, svs_cons, firstV, firstW, stk]
  · intro tl
    have e1 : (svs rows).filterMap firstV = svs (rows.map firstW) := by
      unfold svs
      rw [List.filterMap_map, List.map_map]
      exact filterMap_some
    rw [e1]
    obtain ⟨fs, hfs⟩ : ∃ fs, fs = rows.map firstW := ⟨_, rfl⟩
    rw [← hfs] at q1 q2 ⊢
    refine okE_cons (okE_loop ?_)
    rw [ok_cons]
    simp [-okt_cons, ok_var]
    show Ok (bnd (look _) _) _ _
    rw [ok_lstR]
    refine ⟨svs rows, lkp (k := 0) rfl rfl, ?_⟩
    rw [ok_ret]
    refine ⟨rfl, ?_⟩
    rw [srcLen_enum (xs := svs rows) (lkp (k := 0) rfl rfl), svs_len]
    have hxl : ((svs rows).mapIdx fun i x => Val.tup [.int i, x]).length = rows.length := by simp [svs_len]
    refine okE_forN (xs := (svs rows).mapIdx fun i x => Val.tup [.int i, x]) (fun i fr s => ∃ (rs : List Row) (x4 x5 x6 : Option Val), fr = [some (.str text), some (.ref (st.length + (2 + tl.length))), some (.ref st.length), some (.ref (st.length + 1)), x4, x5, x6] ∧ s = ⟨st ++ (.lst (svs rows) :: .lst (rs.map rowV) :: (tl ++ [.lst (svs fs)])), st.length⟩ ∧ rs.length = i ∧ firstBad fs 0 rows = firstBad fs i (rows.drop i) ∧ ∀ k r row, rs[k]? = some r → rows[k]? = some row → rowW (splitT 32 [] row) fs k = some r) ?_ ?_ ?_ rows.length 0 _ _ (by rw [hxl]; omega) ⟨[], _, _, _, by rw [show tl.length + 1 + 1 = 2 + tl.length by omega], by simp, rfl, rfl, fun k r row h => by simp at h⟩
    · rintro i fr s ⟨rs, x4, x5, x6, rfl, rfl, _⟩
      exact src_enum (lkp (k := 0) rfl rfl)
    · rintro i v fr s hv ⟨rs, x4, x5, x6, rfl, rfl, il, ib, ir⟩
      have hi : i < rows.length := by have := (List.getElem?_eq_some_iff.mp hv).1; rwa [hxl] at this
      obtain ⟨row, hrow⟩ : ∃ row, rows[i]? = some row := ⟨_, List.getElem?_eq_getElem hi⟩
      have hmr := hm row (List.mem_of_getElem? hrow)
      have hdr : rows.drop i = row :: rows.drop (i + 1) := by
        rw [List.drop_eq_getElem_cons hi]
        rw [List.getElem?_eq_getElem hi] at hrow
        rw [Option.some.inj hrow]
      rw [hdr] at ib
      rw [List.getElem?_mapIdx] at hv
      simp [svs, hrow] at hv
      subst hv
      refine ⟨_, rfl, ?_⟩
      have out : (decide (i < 6) && (rowW (splitT 32 [] row) fs i).isSome) = false → ∀ (x6 : Option Val) (r : Ts) N, OkTE (exTs ⟨callN pgA wfA (d + 3), pgA, none, wfA⟩ (Ts.cons (T.ite (E.cmp Cp.isN (E.var 6) (E.k Val.non)) (Ts.cons (T.raise C_InvalidText (E.var 4)) Ts.nil) Ts.nil) r) [some (.str text), some (.ref (st.length + (2 + tl.length))), some (.ref st.length), some (.ref (st.length + 1)), some (.int (i : Int)), some (.str row), some .non] ⟨st ++ (.lst (svs rows) :: .lst (rs.map rowV) :: (tl ++ [.lst (svs fs)])), st.length⟩) N (fun v s2 => Ok (leave st.length w v) s2 P) (fun x _ s2 => (x.arg.map hasRef).getD false = false ∧ st.length ≤ s2.w ∧ Y x ⟨s2.st.take st.length, w⟩) := fun hb x6 r N => by
        have hb2 : firstBad fs 0 rows = some i := by
          rw [ib]
          show (if _ then _ else _) = _
          rw [if_neg (by rw [hb]; exact Bool.false_ne_true)]
        refine okE_cons (okE_ite ?_)
        rw [ok_cmp, ok_var (v := .non) rfl, ok_k, ok_isN0, ok_truth, if_pos rfl]
        refine okE_cons (okE_raise (fun s => rfl) ?_)
        rw [ok_var (v := .int (i : Int)) rfl]
        refine ⟨rfl, Nat.le_refl _, ?_⟩
        show Y _ ⟨(st ++ _).take st.length, w⟩
        rw [List.take_left]
        exact q2 i hb2
      refine okE_seq ?_
      rw [okt_asg, ok_iteE, ok_cmp, ok_var (v := .int (i : Int)) rfl, ok_k, ok_ltI, ok_truth]
      by_cases h6 : i < 6
      · rw [if_pos (decide_eq_true (by omega)), ok_call, ok_cons, ok_var (v := .str row) rfl, ok_cons, ok_var (v := .ref (st.length + (2 + tl.length))) rfl, ok_cons, ok_var (v := .int (i : Int)) rfl, ok_nil]
        refine read_row_ok (firsts := fs) (lkp (k := 2 + tl.length) rfl ?_) hmr ?_
        · rw [show 2 + tl.length = tl.length + 1 + 1 by omega]
          simp
        cases hr : rowW (splitT 32 [] row) fs i with
        | none => exact out (by rw [hr]; simp) x6 _ _
        | some r =>
          refine okE_seq ?_
          rw [okt_ite, ok_cmp, ok_var (v := rowV r) rfl, ok_k]
          refine ok_isN3.mpr ?_
          rw [ok_truth, if_neg Bool.false_ne_true, okt_nil]
          refine okE_seq ?_
          rw [okt_ex, ok_bm, ok_var (v := .ref (st.length + 1)) rfl, ok_bmChkR]
          refine ⟨rfl, _, by rw [stk]; rfl, ?_⟩
          rw [ok_cons, ok_var (v := rowV r) rfl, ok_nil, ok_append]
          refine ⟨_, by rw [stk]; rfl, ?_, ?_⟩
          · rw [List.length_map]
            refine decide_eq_true ?_
            unfold lim at *
            omega
          have nr : obRef (.lst (rs.map rowV ++ [rowV r])) = false := by
            have : rs.map rowV ++ [rowV r] = (rs ++ [r]).map rowV := by rw [List.map_append]; rfl
            rw [this]
            exact noRefs_flat (flats_map fun x _ => flat_rowV)
          rw [noref_w' nr]
          refine okE_nil ⟨rs ++ [r], _, _, _, rfl, ?_, by simp [il], ?_, fun k r2 row2 h1 h2 => ?_⟩
          · rw [ssk]
            simp
          · rw [ib]
            show (if _ then _ else _) = _
            rw [if_pos (by rw [hr]; simp [h6])]
          · by_cases hk : k < rs.length
            · rw [List.getElem?_append_left hk] at h1
              exact ir k r2 row2 h1 h2
            · have hk2 : k = i := by
                have := (List.getElem?_eq_some_iff.mp h1).1
                simp at this
                omega
              subst hk2
              rw [List.getElem?_append_right (by omega), il, Nat.sub_self] at h1
              cases h1
              rw [hrow] at h2
              cases h2
              exact hr
      · rw [if_neg (by simp; omega), ok_k]
        exact out (by simp [h6]) x6 _ _
    · rintro fr s ⟨rs, x4, x5, x6, rfl, rfl, il, ib, ir⟩
      rw [hxl] at il ib
      rw [List.drop_length] at ib
      refine okE_cons (OkTE.of ?_)
      rw [okt_ret, ok_var (v := .ref (st.length + 1)) rfl]
      refine lvN (Nat.le_refl _) (k := 1) (o := .lst (rs.map rowV)) rfl (noRefs_flat (flats_map fun x _ => flat_rowV)) (q1 rs ib ⟨il, ?_⟩)
      rw [← hfs]
      exact ir
end
end PI.MX
end

section
set_option Elab.async false
set_option linter.all false
set_option maxRecDepth 100000
/-! PyF1: what is read is told again: texts without a wrong row (k02). -/
namespace PI.MX
theorem figB_inv {x : Tx} {lo hi i : Int} (h : figB x lo hi = some i) (h0 : 0 ≤ lo) (h9 : hi ≤ 9) : numT i = x ∧ lo ≤ i ∧ i ≤ hi := by
  unfold figB at h
  split at h
  · rename_i c
    split at h
    · rename_i hc
      cases h
      refine ⟨?_, hc.2.2.1, hc.2.2.2⟩
      rw [numT_dig (by omega)]
      congr 1
      omega
    · cases h
  · cases h
theorem rwGo_inv {nm : Tx} {fs : List Tx} : ∀ {n : Nat} {ws : List Tx} {acc w : List (Tx × Int)}, ws.length ≤ n → rwGo nm fs ws acc = some w → ws.length % 2 = 0 →
    ∃ more, w = acc ++ more ∧ ws = wayWords more ∧ (∀ x ∈ more, isNameB x.1 = true ∧ x.1 ∈ fs ∧ 1 ≤ x.2 ∧ x.2 ≤ 3) ∧ ((acc.map (·.1)).Pairwise (· < ·) → (w.map (·.1)).Pairwise (· < ·))
  | 0, ws, acc, w, hn, h, h2 => by
    have e : ws = [] := List.length_eq_zero_iff.mp (by omega)
    subst e
    cases (show some acc = some w from h)
    exact ⟨[], by simp, rfl, (fun x hx => nomatch hx), fun k => k⟩
  | n + 1, ws, acc, w, hn, h, h2 => by
    match ws, hn, h, h2 with
    | [], _, h, _ =>
      cases (show some acc = some w from h)
      exact ⟨[], by simp, rfl, (fun x hx => nomatch hx), fun k => k⟩
    | [_], _, _, h2 => simp at h2
    | e :: t :: r, hn, h, h2 =>
      have un : rwGo nm fs (e :: t :: r) acc = match figB t 1 3 with
        | none => none
        | some n => if isNameB e && e != nm && fs.contains e && lastOk acc e then rwGo nm fs r (acc ++ [(e, n)]) else none := rfl
      rw [un] at h
      cases hf : figB t 1 3 with
      | none => rw [hf] at h; cases h
      | some k =>
        rw [hf] at h
        simp only at h
        split at h
        · rename_i hc
          simp only [Bool.and_eq_true] at hc
          obtain ⟨⟨⟨c1, c2⟩, c3⟩, c4⟩ := hc
          obtain ⟨f1, f2, f3⟩ := figB_inv hf (by decide) (by decide)
          obtain ⟨more, m1, m2, m3, m4⟩ := rwGo_inv (n := n) (ws := r) (by simp at hn; omega) h (by simp at h2; omega)
          refine ⟨(e, k) :: more, by rw [m1]; simp, ?_, fun x hx => ?_, fun pw => m4 ?_⟩
          · unfold wayWords at m2 ⊢
            rw [List.flatMap_cons, ← m2]
            show _ = [e, numT k] ++ r
            rw [f1]
            rfl
          · rcases List.mem_cons.mp hx with rfl | hx
            · exact ⟨c1, List.contains_iff_mem.mp c3, f2, f3⟩
            · exact m3 x hx
          · rw [List.map_append, List.pairwise_append]
            refine ⟨pw, by simp, fun a ha b hb => ?_⟩
            simp only [List.map_cons, List.map_nil, List.mem_singleton] at hb
            subst hb
            unfold lastOk at c4
            cases hl : acc.getLast? with
            | none =>
              rw [List.getLast?_eq_none_iff] at hl
              rw [hl] at ha
              cases ha
            | some z =>
              rw [hl] at c4
              have c4 := of_decide_eq_true c4
              obtain ⟨ys, hy⟩ := List.getLast?_eq_some_iff.mp hl
              rw [hy, List.map_append, List.mem_append] at ha
              rcases ha with ha | ha
              · rw [hy, List.map_append, List.pairwise_append] at pw
                exact List.lt_trans (pw.2.2 a ha z.1 (by simp)) c4
              · simp only [List.map_cons, List.map_nil, List.mem_singleton] at ha
                subst ha
                exact c4
        · cases h
theorem lt_nodup {xs : List Tx} (h : xs.Pairwise (· < ·)) : xs.Nodup := by
  refine List.Pairwise.imp (fun {a b} hab e => ?_) h
  subst e
  exact List.lt_irrefl a hab
theorem rowW_inv {ws fs : List Tx} {i : Nat} {r : Row} (h : rowW ws fs i = some r) (hf : fs.length ≤ 6) : ws = rowWords r ∧ OkRow r := by
  have waysIn : ∀ {ww : List Tx} {w : List (Tx × Int)} {nm : Tx}, rwB ww nm fs = some w → ww = wayWords w ∧ w ≠ [] ∧ w.length ≤ 6 ∧ ∀ x ∈ w, x.1.length ≤ 8 ∧ 0 ≤ x.2 ∧ x.2 ≤ 99 := fun {ww w nm} hw => by
    unfold rwB at hw
    split at hw
    · cases hw
    · rename_i hc
      simp only [not_or] at hc
      obtain ⟨more, m1, m2, m3, m4⟩ := rwGo_inv (Nat.le_refl _) hw (by omega)
      rw [List.nil_append] at m1
      subst m1
      refine ⟨m2, fun e => hc.1 (by rw [m2, e]; rfl), ?_, fun x hx => ?_⟩
      · have nd := lt_nodup (m4 (by simp))
        have := sub_len nd (ys := fs) fun x hx => by
          obtain ⟨y, hy, rfl⟩ := List.mem_map.mp hx
          exact (m3 y hy).2.1
        rw [List.length_map] at this
        omega
      · obtain ⟨k1, k2, k3, k4⟩ := m3 x hx
        exact ⟨(name_mem k1).2.2, by omega, by omega⟩
  match ws, h with
  | [], h => cases h
  | [_], h => cases h
  | nm :: f :: rest, h =>
    unfold rowW at h
    simp only at h
    split at h
    · rename_i hc
      simp only [Bool.and_eq_true] at hc
      have nl := (name_mem hc.1).2.2
      cases hl : figB f 0 9 with
      | none => rw [hl] at h; cases h
      | some l =>
        rw [hl] at h
        obtain ⟨f1, f2, f3⟩ := figB_inv hl (by decide) (by decide)
        have build : ∀ (sy : Bool) (rest2 : List Tx), restB nm l fs sy rest2 = some r → (if sy = true then [stayT] else []) ++ rest2 = rest → nm :: f :: rest = rowWords r ∧ OkRow r := fun sy rest2 hr he => by
          unfold restB at hr
          split at hr
          · split at hr
            · rename_i hs
              cases hr
              refine ⟨?_, nl, ⟨show 0 ≤ l from f2, show l ≤ 99 by omega⟩, by simp, fun x hx => nomatch hx⟩
              rw [← he]
              simp [rowWords, hs, f1]
            · cases hr
          · rename_i a r2
            split at hr
            · rename_i ha
              have ha := eq_of_beq ha
              obtain ⟨w, hw, rfl⟩ := Option.map_eq_some_iff.mp hr
              obtain ⟨k1, k2, k3, k4⟩ := waysIn hw
              refine ⟨?_, nl, ⟨show 0 ≤ l from f2, show l ≤ 99 by omega⟩, k3, k4⟩
              have ne : w.isEmpty = false := by cases w <;> first | exact absurd rfl k2 | rfl
              rw [← he, ha, k1]
              simp [rowWords, f1, ne, wayWords]
            · cases hr
        simp only at h
        split at h
        · rename_i hs
          have hs := eq_of_beq hs
          refine build true _ h ?_
          cases rest with
          | nil => simp at hs
          | cons a t =>
            simp at hs
            simp [hs]
        · exact build false _ h (by simp)
    · cases h
theorem join_split {c : Nat} : ∀ {s acc : Tx}, joinT [c] (splitT c acc s) = acc ++ s
  | [], acc => by simp [splitT, joinT]
  | x :: r, acc => by
    unfold splitT
    split
    · rename_i h
      obtain ⟨a, t, e⟩ : ∃ a t, splitT c [] r = a :: t := List.exists_cons_of_ne_nil splitT_ne
      have ih := join_split (c := c) (s := r) (acc := [])
      rw [e] at ih ⊢
      rw [joinT_cons2, ih, h]
      simp
    · rw [join_split]
      simp
theorem read_told {text : Tx} {rs : List Row} (h : readsAs (splitT 10 [] text) rs) (hl : rs.length ≤ 6) : OkRows rs ∧ textTx rs = text := by
  obtain ⟨h1, h2⟩ := h
  have fl : ((splitT 10 [] text).map firstW).length ≤ 6 := by rw [List.length_map]; omega
  refine ⟨⟨hl, fun r hr => ?_⟩, ?_⟩
  · obtain ⟨k, hk⟩ := List.getElem?_of_mem hr
    have hk2 := (List.getElem?_eq_some_iff.mp hk).1
    exact (rowW_inv (h2 k r _ hk (List.getElem?_eq_getElem (by omega))) fl).2
  · have e : rs.map rowTx = splitT 10 [] text := by
      refine List.ext_getElem? fun k => ?_
      rw [List.getElem?_map]
      by_cases hk : k < rs.length
      · have hrow : (splitT 10 [] text)[k]? = some (splitT 10 [] text)[k] := List.getElem?_eq_getElem (by omega)
        rw [List.getElem?_eq_getElem hk, hrow]
        have := (rowW_inv (h2 k _ _ (List.getElem?_eq_getElem hk) hrow) fl).1
        show some (rowTx rs[k]) = _
        unfold rowTx
        rw [← this, join_split]
        simp
      · rw [List.getElem?_eq_none (by omega), List.getElem?_eq_none (by omega)]
        rfl
    unfold textTx
    rw [e, join_split]
    simp
theorem bad_six {fs : List Tx} : ∀ {rows : List Tx} {i : Nat}, firstBad fs i rows = none → i ≤ 6 → i + rows.length ≤ 6
  | [], i, _, h => by simpa using h
  | r :: rs, i, h, hi => by
    unfold firstBad at h
    split at h
    · rename_i hc
      simp only [Bool.and_eq_true, decide_eq_true_eq] at hc
      have := bad_six h (by omega)
      rw [List.length_cons]
      omega
    · cases h
section
variable {d w : Nat} {st : List Ob} {P : Val → S → Prop} {Y : Ex → S → Prop}
theorem parse_gen {text : Tx} (hl : text.length + 2 ≤ lim) (q1 : ∀ rs : List Row, badIn text = none → OkRows rs → textTx rs = text → P (.ref st.length) ⟨st ++ [siteOb rs], w⟩)
    (q2 : ∀ i : Nat, badIn text = some i → Y ⟨C_InvalidText, some (.int i)⟩ ⟨st, w⟩) : OkE (callN pgA wfA (d + 5) F_Site_parse [.str text]) ⟨st, w⟩ P Y := by
  refine okE_callN (df := d_Site_parse) rfl rfl ?_
  simp only [d_Site_parse]
  have err : ∀ i : Nat, badIn text = some i → ((Ex.mk C_InvalidText (some (.int i))).arg.map hasRef).getD false = false ∧ st.length ≤ (S.mk st st.length).w ∧ Y ⟨C_InvalidText, some (.int i)⟩ ⟨(S.mk st st.length).st.take st.length, w⟩ := fun i hi => by
    refine ⟨rfl, Nat.le_refl _, ?_⟩
    show Y _ ⟨st.take st.length, w⟩
    rw [List.take_length]
    exact q2 i hi
  refine okE_cons (okE_ret ?_)
  simp only [ev]
  by_cases ht : text = []
  · subst ht
    refine okE_bnd (okE_evs1 (okE_call ?_))
    rw [ok_cons, ok_var (v := .str []) rfl, ok_nil]
    refine read_rows_odd (d := d) (v := .str []) (fun w => rfl) (fun t e => by cases e; rfl) ?_
    exact err 0 badIn_nil
  · refine okE_bnd (okE_evs1 (okE_call ?_))
    rw [ok_cons, ok_var (v := .str text) rfl, ok_nil]
    refine read_rows_gen (d := d) ht hl (fun rs hb hr => ?_) fun i hi => err i hi
    have six : rs.length ≤ 6 := by
      have := bad_six hb (by decide)
      have := hr.1
      omega
    obtain ⟨hk, ht2⟩ := read_told hr six
    refine OkE.of ?_
    have q := q1 rs hb hk ht2
    show Ok (match (pgA.cs C_Site).bind (·.init) with
      | some f => bnd (alloc (.ins C_Site [])) fun r => bnd (callN pgA wfA (d + 4) f (r :: [.ref st.length])) fun v => (match v with
        | .non => ret r
        | _ => bad)
      | none => bad) _ _
    have hi : (pgA.cs C_Site).bind (·.init) = some F_Site___init__ := rfl
    simp only [hi]
    rw [ok_bnd, ok_alloc, ok_bnd]
    refine site_init_ok (rs := rs) (lkp (k := 0) (by simp) (by simp)) ?_ hk ?_
    · show ((st ++ [Ob.lst (List.map rowV rs)]) ++ [Ob.ins C_Site []])[st.length]? = _
      rw [List.append_assoc]
      exact lkp (k := 0) rfl rfl
    · rw [ok_ret]
      show Ok (leave st.length w (Val.ref (st ++ [Ob.lst (List.map rowV rs)]).length)) ⟨((st ++ [Ob.lst (List.map rowV rs)]) ++ [Ob.ins C_Site []]).set (st ++ [Ob.lst (List.map rowV rs)]).length (siteOb rs), st.length⟩ P
      rw [ss0, List.append_assoc]
      simp only [List.length_append, List.length_cons, List.length_nil, List.set_cons_zero]
      exact lvN (Nat.le_refl _) (k := 1) (o := siteOb rs) rfl siteOb_ref q
theorem parse_odd {v : Val} (hv : ∀ w, tyIs pgA ⟨st, w⟩ v .str = some (strB v)) (h0 : ∀ t, v = .str t → t = []) (q2 : Y ⟨C_InvalidText, some (.int 0)⟩ ⟨st, w⟩) : OkE (callN pgA wfA (d + 5) F_Site_parse [v]) ⟨st, w⟩ P Y := by
  refine okE_callN (df := d_Site_parse) rfl rfl ?_
  simp only [d_Site_parse]
  refine okE_cons (okE_ret ?_)
  simp only [ev]
  refine okE_bnd (okE_evs1 (okE_call ?_))
  rw [ok_cons, ok_var (v := v) rfl, ok_nil]
  refine read_rows_odd (d := d) hv h0 ?_
  refine ⟨rfl, Nat.le_refl _, ?_⟩
  show Y _ ⟨st.take st.length, w⟩
  rw [List.take_length]
  exact q2
end
end PI.MX
end

section
set_option Elab.async false
set_option linter.all false
set_option maxRecDepth 100000
/-! PyF2: the law's own reading (k02). -/
namespace PI.MX
theorem fm_if2 {α β : Type} {c : α → Bool} {f : α → β} {xs : List α} : (xs.filterMap fun x => if c x = true then some (f x) else none) = (xs.filter c).map f := by
  induction xs with
  | nil => rfl
  | cons x t ih =>
    rw [List.filterMap_cons, List.filter_cons]
    cases h : c x with
    | true => simp only [if_true, List.map_cons, ih]
    | false => simp only [Bool.false_eq_true, if_false, ih]
theorem filter_none {α : Type} {c : α → Bool} : ∀ {xs : List α}, ((xs.filter fun x => !c x).isEmpty) = xs.all c
  | [] => rfl
  | x :: t => by
    rw [List.filter_cons, List.all_cons]
    cases h : c x with
    | true => simp only [Bool.not_true, Bool.false_eq_true, if_false, Bool.true_and]; exact filter_none
    | false => rfl
theorem isEmpty_map {α β : Type} {f : α → β} {xs : List α} : (xs.map f).isEmpty = xs.isEmpty := by cases xs <;> rfl
section
variable {d w : Nat} {st : List Ob} {P : Val → S → Prop}
theorem law_is_name_ok {x : Tx} (hx : x.length ≤ lim) (q : P (.bl (isNameB x)) ⟨st, w⟩) : Ok (callN pgA wfA (d + 1) F__law_is_name [.str x]) ⟨st, w⟩ P := by
  refine ok_callN (df := d__law_is_name) rfl rfl ?_
  simp only [d__law_is_name]
  have hl : ∀ s : S, Ok (bfv ⟨callN pgA wfA d, pgA, none, wfA⟩ .len [.str x]) s = fun Q => Ok (bfv ⟨callN pgA wfA d, pgA, none, wfA⟩ .len [.str x]) s Q := fun _ => rfl
  have len : ∀ (s : S) (Q : Val → S → Prop), Ok (bfv ⟨callN pgA wfA d, pgA, none, wfA⟩ .len [.str x]) s Q ↔ Q (.int x.length) s := fun s Q => by
    refine ok_chkR.trans ?_
    rw [decide_eq_true hx]
    simp
  rw [okt_cons, okt_ite, ok_not, ok_chain, ok_k, ok_bf, ok_cons, ok_var (v := .str x) rfl, ok_nil, len, ok_leI]
  by_cases h1 : 1 ≤ x.length
  rotate_left
  · rw [if_neg (by simp; omega), ok_truth, ok_truth, Bool.not_false, if_pos rfl, okt_cons, okt_ret, ok_k]
    rw [show isNameB x = false by unfold isNameB; rw [decide_eq_false h1]; simp] at q
    exact lv0 (Nat.le_refl _) rfl q
  rw [if_pos (decide_eq_true (by omega)), ok_k, ok_leI, ok_truth]
  by_cases h2 : x.length ≤ 8
  rotate_left
  · rw [decide_eq_false (show ¬((x.length : Nat) : Int) ≤ 8 by omega), ok_truth, Bool.not_false, if_pos rfl, okt_cons, okt_ret, ok_k]
    rw [show isNameB x = false by unfold isNameB; rw [decide_eq_false h2]; simp] at q
    exact lv0 (Nat.le_refl _) rfl q
  rw [decide_eq_true (show ((x.length : Nat) : Int) ≤ 8 by omega), ok_truth, Bool.not_true, if_neg Bool.false_ne_true, okt_nil, okt_cons, okt_ret, ok_cmp, ok_comp, ok_cons, ok_var (v := .str x) rfl, ok_nil, ok_srcS]
  refine ⟨rfl, ?_⟩
  show Ok (compN _ _ x.length 0 []) _ _
  refine ok_compM (items := x) (f := fun c => Val.str [c]) (fun c => if (!decide (c ∈ abcT)) = true then some (.str [c]) else none) (fun i => src_sgn) ?_ hx ?_
  · intro c hc
    refine (turn_c (t := .var 1) (v := .str [c]) (fr' := [some (.str x), some (.str [c])]) rfl).mpr ?_
    rw [ok_cmp, ok_var (v := .str [c]) rfl, ok_k, ok_nmemC, ok_truth]
    show if (!decide (c ∈ abcT)) = true then _ else _
    by_cases hz : (!decide (c ∈ abcT)) = true
    · rw [if_pos hz, if_pos hz, ok_var (v := .str [c]) rfl]
      exact ⟨rfl, rfl⟩
    · rw [if_neg hz, if_neg hz]
      exact ⟨rfl, rfl⟩
  rw [fm_if2, ok_lst, ok_nil]
  refine ⟨rfl, ?_⟩
  rw [ok_alloc]
  simp only [List.append_assoc, List.length_append]
  rw [ok_eqNil (i := st.length) (by rw [st0]; rfl) (by rw [stk]; rfl) (flats_map fun x _ => rfl) (deps_map fun x _ => Nat.zero_le _), isEmpty_map, filter_none]
  have e : isNameB x = x.all fun c => decide (c ∈ abcT) := by
    unfold isNameB
    rw [decide_eq_true h1, decide_eq_true h2]
    rfl
  rw [e] at q
  exact lv (Nat.le_refl _) rfl q
def lastT (acc : List (Tx × Int)) : Tx := (acc.getLast?.map (·.1)).getD []
theorem lastOk_lt {acc : List (Tx × Int)} {e : Tx} (h : e ≠ []) : lastOk acc e = decide (lastT acc < e) := by
  unfold lastOk lastT
  cases acc.getLast? with
  | none =>
    simp only [Option.map_none, Option.getD_none]
    cases e with
    | nil => exact absurd rfl h
    | cons c t => rfl
  | some z => rfl
theorem fig13 {t : Tx} : (figB t 1 3).isSome = ([[49], [50], [51]] : List Tx).contains t := by
  match t with
  | [] => rfl
  | [c] =>
    by_cases h : c = 49 ∨ c = 50 ∨ c = 51
    · rcases h with rfl | rfl | rfl <;> rfl
    · have e : figB [c] 1 3 = none := by
        unfold figB
        simp only
        rw [if_neg (by omega)]
      rw [e]
      simp only [not_or] at h
      simp [h.1, h.2.1, h.2.2]
  | _ :: _ :: _ => simp [figB]
theorem fig09 {t : Tx} : (figB t 0 9).isSome = ([[48], [49], [50], [51], [52], [53], [54], [55], [56], [57]] : List Tx).contains t := by
  match t with
  | [] => rfl
  | [c] =>
    by_cases h : 48 ≤ c ∧ c ≤ 57
    · have : c = 48 ∨ c = 49 ∨ c = 50 ∨ c = 51 ∨ c = 52 ∨ c = 53 ∨ c = 54 ∨ c = 55 ∨ c = 56 ∨ c = 57 := by omega
      rcases this with rfl | rfl | rfl | rfl | rfl | rfl | rfl | rfl | rfl | rfl <;> rfl
    · have e : figB [c] 0 9 = none := by
        unfold figB
        simp only
        rw [if_neg (by omega)]
      rw [e]
      have ne : ∀ k : Nat, 48 ≤ k → k ≤ 57 → c ≠ k := fun k h1 h2 h3 => h (by omega)
      simp [ne]
  | _ :: _ :: _ => simp [figB]
theorem law_ways_ok {r1 r2 : Nat} {ws ends : List Tx} {name : Tx} (h1 : st[r1]? = some (.lst (svs ws))) (h2 : st[r2]? = some (.lst (svs ends))) (hl : ws.length ≤ lim) (hx : ∀ x ∈ ws, x.length ≤ lim)
    (q : P (.bl (rwB ws name ends).isSome) ⟨st, w⟩) : Ok (callN pgA wfA (d + 2) F__law_are_ways [.ref r1, .str name, .ref r2]) ⟨st, w⟩ P := by
  refine ok_callN (df := d__law_are_ways) rfl rfl ?_
  have h1' : ∀ tl, (st ++ tl)[r1]? = some (.lst (svs ws)) := fun tl => sto h1
  have h2' : ∀ tl, (st ++ tl)[r2]? = some (.lst (svs ends)) := fun tl => sto h2
  simp only [d__law_are_ways]
  rw [okt_cons, okt_ite, ok_or, ok_cmp, ok_var (v := .ref r1) rfl, ok_lst, ok_nil]
  refine ⟨rfl, ?_⟩
  rw [ok_alloc, ok_eqL (xs := ws) (ys := []) (h1' _) (by rw [st0]; rfl), ok_truth]
  by_cases e0 : ws = []
  · have z : rwB ws name ends = none := by unfold rwB; rw [if_pos (.inl e0)]
    rw [z] at q
    rw [if_pos (by rw [e0]; rfl), ok_truth, if_pos rfl, okt_cons, okt_ret, ok_k]
    exact lv (Nat.le_refl _) rfl q
  rw [if_neg (by simpa using e0), ok_cmp, ok_op, ok_bf, ok_cons, ok_var (v := .ref r1) rfl, ok_nil, ok_lenRef]
  refine ⟨_, h1' _, ?_⟩
  rw [ok_k, ok_modI]
  refine ⟨rfl, ?_⟩
  rw [ok_k, ok_ne, ok_eqI, ok_truth, svs_len]
  by_cases e2 : ws.length % 2 = 1
  · have z : rwB ws name ends = none := by unfold rwB; rw [if_pos (.inr e2)]
    rw [z] at q
    have : ((ws.length : Int).fmod 2 == 0) = false := by rw [fmod2.mpr e2]; rfl
    rw [this, Bool.not_false, if_pos rfl, okt_cons, okt_ret, ok_k]
    exact lv (Nat.le_refl _) rfl q
  have ev0 : ((ws.length : Int).fmod 2 == 0) = true := by
    rw [Int.fmod_eq_emod_of_nonneg _ (by decide)]
    exact beq_iff_eq.mpr (by omega)
  rw [ev0, Bool.not_true, if_neg Bool.false_ne_true, okt_nil]
  have z : rwB ws name ends = rwGo name ends ws [] := by unfold rwB; rw [if_neg (by simp [e0, e2])]
  rw [z] at q
  rw [okt_cons, okt_asg, ok_k, okt_cons, okt_loop, ok_cons, ok_k, ok_cons, ok_bf, ok_cons, ok_var (v := .ref r1) rfl, ok_nil, ok_lenRef]
  refine ⟨_, h1' _, ?_⟩
  rw [ok_cons, ok_k, ok_nil, svs_len, ok_srcR2 hl]
  refine ⟨rfl, ?_⟩
  obtain ⟨m, hm⟩ : ∃ m, ws.length = 2 * m := ⟨ws.length / 2, by omega⟩
  have hm2 : (ws.length + 1) / 2 = m := by omega
  rw [hm2]
  have hlen : ((List.range m).map fun j : Nat => Val.int (2 * j)).length = m := by simp
  show OkT (forN _ _ _ m 0 _ _) _ _
  refine okt_forN (xs := (List.range m).map fun j : Nat => Val.int (2 * j)) (fun i fr s => ∃ (acc : List (Tx × Int)) (tl : List Ob) (x4 x5 : Option Val), fr = [some (.ref r1), some (.str name), some (.ref r2), some (.str (lastT acc)), x4, x5] ∧ s = ⟨st ++ tl, st.length⟩ ∧ acc.length = i ∧ rwGo name ends ws [] = rwGo name ends (ws.drop (2 * i)) acc) ?_ ?_ ?_ m 0 _ _ (by rw [hlen]; omega) ⟨[], _, _, _, rfl, rfl, rfl, rfl⟩
  · intro i fr s _
    show R.ok (if i < m then some (Val.int (0 + (i : Int) * 2)) else none) s = _
    congr 1
    by_cases hi : i < m
    · rw [if_pos hi, List.getElem?_map, List.getElem?_range hi]
      simp
      omega
    · rw [if_neg hi, List.getElem?_eq_none (by rw [hlen]; omega)]
  · rintro i v fr s hv ⟨acc, tl, x4, x5, rfl, rfl, ha, hg⟩
    have hi : i < m := by have := (List.getElem?_eq_some_iff.mp hv).1; rwa [hlen] at this
    rw [List.getElem?_map, List.getElem?_range hi] at hv
    simp at hv
    subst hv
    refine ⟨_, rfl, ?_⟩
    obtain ⟨e, he⟩ : ∃ e, ws[2 * i]? = some e := ⟨ws[2 * i], List.getElem?_eq_getElem (by omega)⟩
    obtain ⟨t, ht⟩ : ∃ t, ws[2 * i + 1]? = some t := ⟨ws[2 * i + 1], List.getElem?_eq_getElem (by omega)⟩
    have hdr : ws.drop (2 * i) = e :: t :: ws.drop (2 * (i + 1)) := by
      rw [List.drop_eq_getElem_cons (by omega), List.drop_eq_getElem_cons (i := 2 * i + 1) (by omega)]
      rw [List.getElem?_eq_getElem (by omega)] at he ht
      rw [Option.some.inj he, Option.some.inj ht]
      rfl
    have a1 : atI (svs ws) (2 * (i : Int)) = some (.str e) := atI_n (k := 2 * i) (by simp [svs, he])
    have a2 : atI (svs ws) (2 * (i : Int) + 1) = some (.str t) := atI_n (k := 2 * i + 1) (by simp [svs, ht])
    have m1 : e ∈ ws := List.mem_of_getElem? he
    rw [hdr] at hg
    have un : rwGo name ends (e :: t :: ws.drop (2 * (i + 1))) acc = match figB t 1 3 with
      | none => none
      | some n => if isNameB e && e != name && ends.contains e && lastOk acc e then rwGo name ends (ws.drop (2 * (i + 1))) (acc ++ [(e, n)]) else none := rfl
    have bad : rwGo name ends (e :: t :: ws.drop (2 * (i + 1))) acc = none → ∀ tl', Ok (leave st.length w (Val.bl false)) ⟨st ++ tl', st.length⟩ P := fun h tl' => by
      rw [hg, h] at q
      exact lv (Nat.le_refl _) rfl q
    rw [okt_cons, okt_asg, ok_idx, ok_var (v := .ref r1) rfl, ok_var (v := .int (2 * (i : Int))) rfl, ok_idxRef]
    refine ⟨_, h1' _, _, a1, ?_⟩
    rw [okt_cons, okt_ite, ok_or, ok_not, ok_call, ok_cons, ok_var (v := .str e) rfl, ok_nil]
    refine law_is_name_ok (d := d) (hx e m1) ?_
    rw [ok_truth, ok_truth]
    cases b1 : isNameB e with
    | false =>
      rw [Bool.not_false, if_pos rfl, ok_truth, if_pos rfl, okt_cons, okt_ret, ok_k]
      exact bad (by rw [un]; cases figB t 1 3 <;> simp [b1]) _
    | true =>
      have ne : e ≠ [] := fun h => by rw [h] at b1; cases b1
      rw [Bool.not_true, if_neg Bool.false_ne_true, ok_or, ok_cmp, ok_var (v := .str e) rfl, ok_var (v := .str name) rfl, ok_eqS, ok_truth]
      by_cases b2 : e = name
      · rw [if_pos (by simpa using b2), ok_truth, if_pos rfl, okt_cons, okt_ret, ok_k]
        exact bad (by rw [un]; cases figB t 1 3 <;> simp [b2]) _
      rw [if_neg (by simpa using b2), ok_or, ok_cmp, ok_var (v := .str e) rfl, ok_var (v := .ref r2) rfl, ok_nmemS (s := ⟨st ++ tl, st.length⟩) (h2' _), ok_truth]
      cases b3 : ends.contains e with
      | false =>
        rw [Bool.not_false, if_pos rfl, ok_truth, if_pos rfl, okt_cons, okt_ret, ok_k]
        exact bad (by rw [un]; cases figB t 1 3 <;> simp [(by simpa using b3 : ¬e ∈ ends)]) _
      | true =>
        rw [Bool.not_true, if_neg Bool.false_ne_true, ok_cmp, ok_var (v := .str e) rfl, ok_var (v := .str (lastT acc)) rfl, ok_leS, ok_truth, ← lastOk_lt ne]
        cases b4 : lastOk acc e with
        | false =>
          rw [Bool.not_false, if_pos rfl, okt_cons, okt_ret, ok_k]
          exact bad (by rw [un]; cases figB t 1 3 <;> simp [b4]) _
        | true =>
          rw [Bool.not_true, if_neg Bool.false_ne_true, okt_nil, okt_cons, okt_ite, ok_cmp, ok_idx, ok_var (v := .ref r1) rfl, ok_op, ok_var (v := .int (2 * (i : Int))) rfl, ok_k, ok_addI, ok_idxRef]
          refine ⟨_, h1' _, _, a2, ?_⟩
          rw [ok_lst, ok_cons, ok_k, ok_cons, ok_k, ok_cons, ok_k, ok_nil]
          refine ⟨by decide, ?_⟩
          rw [ok_alloc]
          refine (ok_nmemS (s := ⟨st ++ tl ++ [.lst [.str [49], .str [50], .str [51]]], st.length⟩) (ys := [[49], [50], [51]]) (by show (st ++ tl ++ _)[(st ++ tl).length]? = _; rw [st0]; rfl)).mpr ?_
          rw [ok_truth, ← fig13]
          cases b5 : figB t 1 3 with
          | none =>
            rw [Option.isSome_none, Bool.not_false, if_pos rfl, okt_cons, okt_ret, ok_k, List.append_assoc]
            exact bad (by rw [un, b5]) _
          | some n =>
            rw [Option.isSome_some, Bool.not_true, if_neg Bool.false_ne_true, okt_nil, okt_cons, okt_asg, ok_var (v := .str e) rfl, okt_nil, List.append_assoc]
            have lt : lastT (acc ++ [(e, n)]) = e := by
              unfold lastT
              simp
            refine ⟨acc ++ [(e, n)], _, some (.int (2 * (i : Int))), some (.str e), ?_, rfl, by simp [ha], ?_⟩
            · rw [lt]
              rfl
            · rw [hg, un, b5]
              simp only [b1, b3, b4, Bool.and_true, Bool.true_and]
              rw [if_pos (by simpa using b2)]
  · rintro fr s ⟨acc, tl, x4, x5, rfl, rfl, ha, hg⟩
    rw [hlen, List.drop_of_length_le (by omega)] at hg
    rw [hg] at q
    rw [okt_cons, okt_ret, ok_k]
    exact lv (Nat.le_refl _) rfl q
end
end PI.MX
end

section
set_option Elab.async false
set_option linter.all false
set_option maxRecDepth 100000
/-! PyF3: rows and texts by the law's own reading (k02). -/
namespace PI.MX
def digsT : List Tx := [[48], [49], [50], [51], [52], [53], [54], [55], [56], [57]]
/-- what stands behind the limit -/
def endLaw (fs : List Tx) (nm : Tx) : List Tx → Bool
  | [] => true
  | a :: q => a == arrowT && (rwB q nm fs).isSome
def rowLaw (ws fs : List Tx) (place : Nat) : Bool := match ws with
  | nm :: f :: c :: rest => isNameB nm && !(fs.take place).contains nm && digsT.contains f && endLaw fs nm (if c == stayT then rest else c :: rest)
  | _ => false
theorem rest_some {nm : Tx} {l : Int} {fs : List Tx} {sy : Bool} {rest : List Tx} (h : sy = true ∨ rest ≠ []) : (restB nm l fs sy rest).isSome = endLaw fs nm rest := by
  cases rest with
  | nil =>
    rcases h with h | h
    · rw [h]; rfl
    · exact absurd rfl h
  | cons a q =>
    unfold restB endLaw
    simp only
    by_cases ha : (a == arrowT) = true
    · rw [if_pos ha, ha, Option.isSome_map, Bool.true_and]
    · rw [if_neg ha]
      rw [Bool.not_eq_true] at ha
      rw [ha]
      rfl
theorem row_some {fs : List Tx} {place : Nat} : ∀ (ws : List Tx), (rowW ws fs place).isSome = rowLaw ws fs place
  | [] => rfl
  | [_] => rfl
  | nm :: f :: rest => by
    have un : rowW (nm :: f :: rest) fs place = if isNameB nm && !(fs.take place).contains nm then (match figB f 0 9 with
      | some l => if rest.take 1 == [stayT] then restB nm l fs true (rest.drop 1) else restB nm l fs false rest
      | none => none) else none := rfl
    rw [un]
    cases hc : (isNameB nm && !(fs.take place).contains nm) with
    | false =>
      rw [if_neg Bool.false_ne_true]
      cases rest with
      | nil => rfl
      | cons c r =>
        unfold rowLaw
        simp only
        rw [hc]
        rfl
    | true =>
      rw [if_pos rfl]
      have hd : (figB f 0 9).isSome = digsT.contains f := fig09
      cases hf : figB f 0 9 with
      | none =>
        rw [hf] at hd
        cases rest with
        | nil => rfl
        | cons c r =>
          unfold rowLaw
          simp only
          rw [hc, ← hd]
          rfl
      | some l =>
        rw [hf] at hd
        cases rest with
        | nil => rfl
        | cons c r =>
          unfold rowLaw
          simp only [List.take_succ_cons, List.take_zero, List.drop_succ_cons, List.drop_zero]
          rw [hc, ← hd]
          have e : ([c] == [stayT]) = (c == stayT) := by
            by_cases h : c = stayT
            · rw [h]; simp
            · rw [beq_false_of_ne h]
              exact beq_false_of_ne (by simpa using h)
          rw [e]
          simp only [Option.isSome_some, Bool.true_and]
          cases hs : c == stayT with
          | true =>
            simp only [if_true]
            exact rest_some (.inl rfl)
          | false =>
            simp only [Bool.false_eq_true, if_false]
            exact rest_some (.inr (by simp))
section
variable {d w : Nat} {st : List Ob} {P : Val → S → Prop}
theorem law_row_is {r2 place : Nat} {row : Tx} {fs : List Tx} (h2 : st[r2]? = some (.lst (svs fs))) (hl : row.length + 2 ≤ lim) (q : P (.bl (rowW (splitT 32 [] row) fs place).isSome) ⟨st, w⟩) : Ok (callN pgA wfA (d + 3) F__law_is_row [.str row, .ref r2, .int (place : Int)]) ⟨st, w⟩ P := by
  rw [row_some] at q
  refine ok_callN (df := d__law_is_row) rfl rfl ?_
  simp only [d__law_is_row]
  have h2' : ∀ tl, (st ++ tl)[r2]? = some (.lst (svs fs)) := fun tl => sto h2
  have hm : ∀ x ∈ splitT 32 [] row, x.length ≤ lim := fun x hx => by
    have := splitT_mem hx
    simp at this
    omega
  have wl : (splitT 32 [] row).length ≤ lim := by
    have := splitT_len (c := 32) (s := row) (acc := [])
    omega
  have no : rowLaw (splitT 32 [] row) fs place = false → ∀ tl, Ok (leave st.length w (.bl false)) ⟨st ++ tl, st.length⟩ P := fun e tl => by
    rw [e] at q
    exact lv (Nat.le_refl _) rfl q
  rw [okt_cons, okt_asg, ok_bm, ok_var (v := .str row) rfl, ok_bmChkS]
  refine ⟨rfl, ?_⟩
  rw [ok_cons, ok_k, ok_nil, ok_split]
  refine ⟨by rw [decide_eq_true hl]; rfl, ?_⟩
  obtain ⟨ws, hws⟩ : ∃ ws, ws = splitT 32 [] row := ⟨_, rfl⟩
  rw [← hws] at hm wl no q ⊢
  obtain ⟨nm, r0, e0⟩ : ∃ nm r0, ws = nm :: r0 := by
    rw [hws]
    exact List.exists_cons_of_ne_nil splitT_ne
  have wat : ∀ tl, (st ++ Ob.lst (svs ws) :: tl)[st.length]? = some (.lst (svs ws)) := fun tl => by rw [st0]; rfl
  have wat0 : (st ++ [Ob.lst (svs ws)])[st.length]? = some (.lst (svs ws)) := wat []
  have at0 : atI (svs ws) 0 = some (.str nm) := by rw [e0]; exact atI_0
  have nml : nm.length ≤ lim := hm nm (by rw [e0]; exact List.mem_cons_self ..)
  rw [okt_cons, okt_ite, ok_or, ok_not, ok_call, ok_cons, ok_idx, ok_var (v := .ref st.length) rfl, ok_k, ok_idxRef]
  refine ⟨_, wat0, _, at0, ?_⟩
  rw [ok_nil]
  refine law_is_name_ok (d := d + 1) nml ?_
  rw [ok_truth, ok_truth]
  have low : ∀ (b : Bool), (isNameB nm = false ∨ (fs.take place).contains nm = true ∨ r0.length < 2 ∨ (∃ f r, r0 = f :: r ∧ digsT.contains f = false)) → rowLaw ws fs place = false := fun b hh => by
    rw [e0]
    match r0 with
    | [] => rfl
    | [f] => rfl
    | f :: c :: r =>
      unfold rowLaw
      simp only
      rcases hh with hh | hh | hh | ⟨f2, r2, he, hh⟩
      · rw [hh]; rfl
      · rw [hh]; simp
      · simp at hh
        omega
      · cases he
        rw [hh]; simp
  cases hn : isNameB nm with
  | false =>
    rw [Bool.not_false, if_pos rfl, ok_truth, if_pos rfl, okt_cons, okt_ret, ok_k]
    exact no (low true (.inl hn)) _
  | true =>
    rw [Bool.not_true, if_neg Bool.false_ne_true, ok_or, ok_cmp, ok_idx, ok_var (v := .ref st.length) rfl, ok_k, ok_idxRef]
    refine ⟨_, wat0, _, at0, ?_⟩
    rw [ok_slc, ok_var (v := .ref r2) rfl]
    simp only [ok_intM, ok_ret]
    rw [ok_var (v := .int (place : Int)) rfl]
    refine ⟨place, rfl, ?_⟩
    rw [ok_slcR]
    refine ⟨_, h2' _, ?_⟩
    rw [cut_take, svs_take]
    refine (ok_memS (ys := fs.take place) (by show (st ++ [Ob.lst (svs ws)] ++ _)[(st ++ [Ob.lst (svs ws)]).length]? = _; rw [st0]; rfl)).mpr ?_
    rw [ok_truth, List.append_assoc]
    show (if _ then Ok (truth (.bl true)) _ _ else _)
    cases hc : (fs.take place).contains nm with
    | true =>
      rw [if_pos rfl, ok_truth, if_pos rfl, okt_cons, okt_ret, ok_k]
      exact no (low true (.inr (.inl hc))) _
    | false =>
      rw [if_neg Bool.false_ne_true, ok_cmp, ok_bf, ok_cons, ok_var (v := .ref st.length) rfl, ok_nil, ok_lenRef]
      refine ⟨_, wat _, ?_⟩
      rw [svs_len, ok_k, ok_ltI, ok_truth]
      by_cases h3 : ws.length < 3
      · rw [if_pos (decide_eq_true (by omega)), okt_cons, okt_ret, ok_k]
        exact no (low true (.inr (.inr (.inl (by rw [e0] at h3; simp at h3; omega))))) _
      rw [if_neg (by simp; omega), okt_nil]
      obtain ⟨f, c, r, rfl⟩ : ∃ f c r, r0 = f :: c :: r := by
        match r0, e0 with
        | [], e0 => rw [e0] at h3; simp at h3
        | [_], e0 => rw [e0] at h3; simp at h3
        | f :: c :: r, _ => exact ⟨f, c, r, rfl⟩
      have at1 : atI (svs ws) 1 = some (.str f) := by rw [e0]; exact atI_1
      have at2 : atI (svs ws) 2 = some (.str c) := by rw [e0]; exact atI_n (k := 2) rfl
      obtain ⟨t1, ht1⟩ : ∃ t1, t1 = [Ob.lst (svs (fs.take place))] := ⟨_, rfl⟩
      rw [← ht1]
      show OkT (exTs _ _ [some (.str row), some (.ref r2), some (.int (place : Int)), some (.ref st.length), none] ⟨st ++ (Ob.lst (svs ws) :: t1), st.length⟩) _ _
      rw [okt_cons, okt_ite, ok_cmp, ok_idx, ok_var (v := .ref st.length) rfl, ok_k, ok_idxRef]
      refine ⟨_, wat _, _, at1, ?_⟩
      rw [ok_lst, ok_cons, ok_k, ok_cons, ok_k, ok_cons, ok_k, ok_cons, ok_k, ok_cons, ok_k, ok_cons, ok_k, ok_cons, ok_k, ok_cons, ok_k, ok_cons, ok_k, ok_cons, ok_k, ok_nil]
      refine ⟨by decide, ?_⟩
      rw [ok_alloc]
      refine (ok_nmemS (ys := digsT) (by show (st ++ (Ob.lst (svs ws) :: t1) ++ _)[(st ++ (Ob.lst (svs ws) :: t1)).length]? = _; rw [st0]; rfl)).mpr ?_
      rw [ok_truth, List.append_assoc]
      cases hd : digsT.contains f with
      | false =>
        rw [Bool.not_false, if_pos rfl, okt_cons, okt_ret, ok_k]
        exact no (low true (.inr (.inr (.inr ⟨f, _, rfl, hd⟩)))) _
      | true =>
        rw [Bool.not_true, if_neg Bool.false_ne_true, okt_nil]
        have fin : rowLaw ws fs place = endLaw fs nm (if c == stayT then r else c :: r) := by
          rw [e0]
          unfold rowLaw
          simp only
          rw [hn, hc, hd]
          rfl
        obtain ⟨t2, ht2⟩ : ∃ t2, t2 = t1 ++ [Ob.lst (svs digsT)] := ⟨_, rfl⟩
        show OkT (exTs _ _ [some (.str row), some (.ref r2), some (.int (place : Int)), some (.ref st.length), none] ⟨st ++ (Ob.lst (svs ws) :: (t1 ++ [Ob.lst (svs digsT)])), st.length⟩) _ _
        rw [← ht2]
        -- behind the choice
        have goOn : ∀ rest : List Tx, (∀ x ∈ rest, x ∈ ws) → rest.length ≤ lim → endLaw fs nm (if c == stayT then r else c :: r) = endLaw fs nm rest → OkT (exTs ⟨callN pgA wfA (d + 2), pgA, none, wfA⟩ (Ts.cons (T.ite (E.cmp Cp.eq (E.var 4) (E.lst Es.nil)) (Ts.cons (T.ret (E.k (Val.bl true))) Ts.nil) Ts.nil) (Ts.cons (T.ret (E.and (E.cmp Cp.eq (E.idx (E.var 4) (E.k (Val.int 0))) (E.k (Val.str [45, 62]))) (E.call F__law_are_ways (Es.cons (E.slc (E.var 4) (E.k (Val.int 1)) E.no) (Es.cons (E.idx (E.var 3) (E.k (Val.int 0))) (Es.cons (E.var 1) Es.nil)))))) Ts.nil)) [some (.str row), some (.ref r2), some (.int (place : Int)), some (.ref st.length), some (.ref (st ++ (Ob.lst (svs ws) :: t2)).length)] ⟨st ++ (Ob.lst (svs ws) :: t2) ++ [.lst (svs rest)], st.length⟩) (fun _ s2 => Ok (leave st.length w .non) s2 P) (fun v s2 => Ok (leave st.length w v) s2 P) := fun rest hr hrl he => by
          rw [fin, he] at q
          have rat : ∀ tl, (st ++ (Ob.lst (svs ws) :: t2) ++ Ob.lst (svs rest) :: tl)[(st ++ (Ob.lst (svs ws) :: t2)).length]? = some (.lst (svs rest)) := fun tl => by rw [st0]; rfl
          have rat0 := rat []
          rw [okt_cons, okt_ite, ok_cmp, ok_var (v := .ref (st ++ (Ob.lst (svs ws) :: t2)).length) rfl, ok_lst, ok_nil]
          refine ⟨rfl, ?_⟩
          rw [ok_alloc]
          refine (ok_eqL (st := st ++ (Ob.lst (svs ws) :: t2) ++ [.lst (svs rest)] ++ [.lst []]) (xs := rest) (ys := []) (by rw [List.append_assoc (st ++ (Ob.lst (svs ws) :: t2))]; exact rat _) (by show (_ : List Ob)[(st ++ (Ob.lst (svs ws) :: t2) ++ [Ob.lst (svs rest)]).length]? = _; rw [st0]; rfl)).mpr ?_
          rw [ok_truth, List.append_assoc (st ++ (Ob.lst (svs ws) :: t2))]
          cases rest with
          | nil =>
            rw [if_pos (show (([] : List Tx) == []) = true from rfl), okt_cons, okt_ret, ok_k, List.append_assoc]
            exact lv (Nat.le_refl _) rfl q
          | cons a q2 =>
            rw [if_neg (by simp), okt_nil, okt_cons, okt_ret, ok_and, ok_cmp, ok_idx, ok_var (v := .ref (st ++ (Ob.lst (svs ws) :: t2)).length) rfl, ok_k, ok_idxRef]
            refine ⟨_, rat _, .str a, atI_0, ?_⟩
            rw [ok_k, ok_eqS, ok_truth]
            have ea : endLaw fs nm (a :: q2) = (a == arrowT && (rwB q2 nm fs).isSome) := rfl
            rw [ea] at q
            show if (a == arrowT) = true then _ else _
            cases ha : a == arrowT with
            | false =>
              rw [ha] at q
              rw [if_neg Bool.false_ne_true, List.append_assoc]
              exact lv (Nat.le_refl _) rfl q
            | true =>
              rw [ha, Bool.true_and] at q
              rw [if_pos rfl, ok_call, ok_cons, ok_slc, ok_var (v := .ref (st ++ (Ob.lst (svs ws) :: t2)).length) rfl]
              simp only [ok_intM, ok_k]
              refine ⟨1, rfl, ?_⟩
              rw [ok_ret, ok_slcR]
              refine ⟨_, rat _, ?_⟩
              rw [cut_d1, svs_drop, ok_cons, ok_idx, ok_var (v := .ref st.length) rfl, ok_k, ok_idxRef]
              refine ⟨_, by rw [List.append_assoc, List.append_assoc, List.cons_append]; exact wat _, _, at0, ?_⟩
              rw [ok_cons, ok_var (v := .ref r2) rfl, ok_nil]
              simp only [List.append_assoc]
              refine law_ways_ok (d := d) (ws := q2) (ends := fs) ?_ (h2' _) (by simp at hrl; omega) (fun x hx => hm x (hr x (List.mem_cons_of_mem _ hx))) ?_
              · simp only [List.length_append, List.length_cons, List.length_nil]
                rw [stk, List.cons_append, show t2.length + 1 + (0 + 1 + (0 + 1)) = (t2.length + (0 + 1 + (0 + 1))) + 1 from rfl, List.getElem?_cons_succ, stk]
                rfl
              · exact lv (Nat.le_refl _) rfl q
        rw [okt_cons, okt_asg, ok_iteE, ok_cmp, ok_idx, ok_var (v := .ref st.length) rfl, ok_k, ok_idxRef]
        refine ⟨_, wat _, _, at2, ?_⟩
        rw [ok_k, ok_eqS, ok_truth]
        show if (c == stayT) = true then _ else _
        have rl : r.length + 3 = ws.length := by rw [e0]; rfl
        cases hs : c == stayT with
        | true =>
          rw [if_pos rfl, ok_slc, ok_var (v := .ref st.length) rfl]
          simp only [ok_intM, ok_k]
          refine ⟨3, rfl, ?_⟩
          rw [ok_ret, ok_slcR]
          refine ⟨_, wat _, ?_⟩
          have dr3 : ws.drop 3 = r := by rw [e0]; rfl
          rw [show cut (svs ws) (some 3) none = (svs ws).drop 3 from cut_drop (k := 3), svs_drop, dr3]
          exact goOn r (fun x hx => by rw [e0]; simp [hx]) (by omega) (by rw [hs]; rfl)
        | false =>
          rw [if_neg Bool.false_ne_true, ok_slc, ok_var (v := .ref st.length) rfl]
          simp only [ok_intM, ok_k]
          refine ⟨2, rfl, ?_⟩
          rw [ok_ret, ok_slcR]
          refine ⟨_, wat _, ?_⟩
          rw [cut_d2, svs_drop]
          have := goOn (c :: r) (fun x hx => by rw [e0]; exact List.mem_cons_of_mem _ (List.mem_cons_of_mem _ hx)) (by rw [List.length_cons]; omega) (by rw [hs]; rfl)
          have dr : ws.drop 2 = c :: r := by rw [e0]; rfl
          rw [dr]
          exact this
end
end PI.MX
end

section
set_option Elab.async false
set_option linter.all false
set_option maxRecDepth 100000
/-! PyF4: what the program says of a text, what the law reads (k02). -/
namespace PI.MX
def badV : Option Nat → Val
  | none => .non
  | some i => .int i
theorem noref_bad {o : Option Nat} : hasRef (badV o) = false := by cases o <;> rfl
section
variable {d w : Nat} {st : List Ob} {P : Val → S → Prop}
theorem law_bad_ok {text : Tx} (hl : text.length + 2 ≤ lim) (q : P (badV (badIn text)) ⟨st, w⟩) : Ok (callN pgA wfA (d + 4) F__law_bad_row [.str text]) ⟨st, w⟩ P := by
  refine ok_callN (df := d__law_bad_row) rfl rfl ?_
  obtain ⟨rows, hrows⟩ : ∃ rows, rows = splitT 10 [] text := ⟨_, rfl⟩
  have hm : ∀ x ∈ rows, x.length + 2 ≤ lim := fun x hx => by
    rw [hrows] at hx
    have := splitT_mem hx
    simp at this
    omega
  have rl : rows.length ≤ lim := by
    rw [hrows]
    have := splitT_len (c := 10) (s := text) (acc := [])
    omega
  unfold badIn at q
  rw [← hrows] at q
  simp only [d__law_bad_row]
  rw [okt_cons, okt_asg, ok_bm, ok_var (v := .str text) rfl]
  simp [-okt_cons, ok_var, hl, ← hrows]
  rw [okt_cons, okt_asg, ok_comp]
  simp [-okt_cons, ok_var]
  rw [ok_srcV (xs := svs rows) (lkp (k := 0) rfl rfl)]
  refine ⟨rfl, ?_⟩
  rw [srcLen_live (xs := svs rows) (lkp (k := 0) rfl rfl)]
  refine ok_compG firstV (fun i tl => src_live (by rw [List.append_assoc]; exact lkp (k := 0) rfl rfl)) ?_ (by rw [svs_len]; exact rl) ?_
  · intro v hv tl
    obtain ⟨x, hx, rfl⟩ := List.mem_map.mp hv
    have hx2 := hm x hx
    rw [turn_no rfl]
    obtain ⟨a, r, e⟩ : ∃ a r, splitT 32 [] x = a :: r := List.exists_cons_of_ne_nil splitT_ne
    simp [ok_var, wipeF, tgIx, hx2, e, svs_cons, firstV, firstW, stk]
  · intro tl
    have e1 : (svs rows).filterMap firstV = svs (rows.map firstW) := by
      unfold svs
      rw [List.filterMap_map, List.map_map]
      exact filterMap_some
    rw [e1]
    obtain ⟨fs, hfs⟩ : ∃ fs, fs = rows.map firstW := ⟨_, rfl⟩
    rw [← hfs] at q ⊢
    rw [okt_cons, okt_loop]
    simp [-okt_cons, ok_var]
    show Ok (bnd (look _) _) _ _
    rw [ok_lstR]
    refine ⟨svs rows, lkp (k := 0) rfl rfl, ?_⟩
    rw [ok_ret]
    refine ⟨rfl, ?_⟩
    rw [srcLen_enum (xs := svs rows) (lkp (k := 0) rfl rfl), svs_len]
    have hxl : ((svs rows).mapIdx fun i x => Val.tup [.int i, x]).length = rows.length := by simp [svs_len]
    obtain ⟨T, hT⟩ : ∃ T, T = st ++ (Ob.lst (svs rows) :: (tl ++ [.lst (svs fs)])) := ⟨_, rfl⟩
    have rAt : T[st.length]? = some (.lst (svs rows)) := by rw [hT, st0]; rfl
    have fAt : T[st.length + (tl.length + 1)]? = some (.lst (svs fs)) := by
      rw [hT, stk, List.getElem?_cons_succ, st0]
      rfl
    have out : ∀ {v : Val}, hasRef v = false → P v ⟨st, w⟩ → Ok (leave st.length w v) ⟨T, st.length⟩ P := fun h p => by
      rw [hT]
      exact lv (Nat.le_refl _) h p
    refine okt_forN (xs := (svs rows).mapIdx fun i x => Val.tup [.int i, x]) (fun i fr s => ∃ (x3 x4 : Option Val), fr = [some (.str text), some (.ref st.length), some (.ref (st.length + (tl.length + 1))), x3, x4] ∧ s = ⟨T, st.length⟩ ∧ firstBad fs 0 rows = firstBad fs i (rows.drop i)) ?_ ?_ ?_ rows.length 0 _ _ (by rw [hxl]; omega) ⟨_, _, rfl, by rw [hT], rfl⟩
    · rintro i fr s ⟨x3, x4, rfl, rfl, _⟩
      exact src_enum rAt
    · rintro i v fr s hv ⟨x3, x4, rfl, rfl, ib⟩
      have hi : i < rows.length := by have := (List.getElem?_eq_some_iff.mp hv).1; rwa [hxl] at this
      obtain ⟨row, hrow⟩ : ∃ row, rows[i]? = some row := ⟨_, List.getElem?_eq_getElem hi⟩
      have hmr := hm row (List.mem_of_getElem? hrow)
      have hdr : rows.drop i = row :: rows.drop (i + 1) := by
        rw [List.drop_eq_getElem_cons hi]
        rw [List.getElem?_eq_getElem hi] at hrow
        rw [Option.some.inj hrow]
      rw [hdr] at ib
      rw [List.getElem?_mapIdx] at hv
      simp [svs, hrow] at hv
      subst hv
      refine ⟨_, rfl, ?_⟩
      have stop : (decide (i < 6) && (rowW (splitT 32 [] row) fs i).isSome) = false → Ok (leave st.length w (.int (i : Int))) ⟨T, st.length⟩ P := fun hb => by
        have hb2 : firstBad fs 0 rows = some i := by
          rw [ib]
          show (if _ then _ else _) = _
          rw [if_neg (by rw [hb]; exact Bool.false_ne_true)]
        rw [hb2] at q
        exact out rfl q
      rw [okt_cons, okt_ite, ok_or, ok_cmp, ok_var (v := .int (i : Int)) rfl, ok_k, ok_geI, ok_truth]
      by_cases h6 : i < 6
      · rw [if_neg (by simp; omega), ok_not, ok_call, ok_cons, ok_var (v := .str row) rfl, ok_cons, ok_var (v := .ref (st.length + (tl.length + 1))) rfl, ok_cons, ok_var (v := .int (i : Int)) rfl, ok_nil]
        refine law_row_is (d := d) fAt hmr ?_
        rw [ok_truth, ok_truth]
        cases hr : (rowW (splitT 32 [] row) fs i).isSome with
        | false =>
          rw [Bool.not_false, if_pos rfl, okt_cons, okt_ret, ok_var (v := .int (i : Int)) rfl]
          exact stop (by rw [hr]; simp)
        | true =>
          rw [Bool.not_true, if_neg Bool.false_ne_true, okt_nil, okt_nil]
          refine ⟨_, _, rfl, rfl, ?_⟩
          rw [ib]
          show (if _ then _ else _) = _
          rw [if_pos (by rw [hr]; simp [h6])]
      · rw [if_pos (by simp; omega), ok_truth, if_pos rfl, okt_cons, okt_ret, ok_var (v := .int (i : Int)) rfl]
        exact stop (by simp [h6])
    · rintro fr s ⟨x3, x4, rfl, rfl, ib⟩
      rw [hxl, List.drop_length] at ib
      rw [ib] at q
      rw [okt_cons, okt_ret, ok_k]
      exact out rfl q
theorem exis_wk : exIs pgA C_InvalidText C_WalkError = some true := rfl
theorem said_text {text : Tx} (hl : text.length + 2 ≤ lim) (q : P (badV (badIn text)) ⟨st, w⟩) : Ok (callN pgA wfA (d + 6) F__law_said [.str text]) ⟨st, w⟩ P := by
  refine ok_callN (df := d__law_said) rfl rfl ?_
  simp only [d__law_said]
  rw [okt_cons, okt_asg, ok_k, okt_cons]
  refine okt_tr (okE_cons (okE_ex (okE_call ?_)))
  rw [ok_cons, ok_var (v := .str text) rfl, ok_nil]
  refine parse_gen (d := d) hl (fun rs hb _ _ => ?_) fun i hi => ?_
  · rw [hb] at q
    refine okE_nil ?_
    rw [okt_cons, okt_ret, ok_var (v := .non) rfl]
    exact lv (Nat.le_refl _) rfl q
  · rw [hi] at q
    refine ⟨exis_wk, ?_⟩
    rw [okt_cons, okt_asg, ok_k, okt_cons, okt_asg]
    refine ok_xat rfl rfl ?_
    rw [okt_nil, okt_cons, okt_ret, ok_var (v := .int (i : Int)) rfl]
    exact lv0 (Nat.le_refl _) rfl q
theorem said_odd {v : Val} (hv : ∀ w, tyIs pgA ⟨st, w⟩ v .str = some (strB v)) (h0 : ∀ t, v = .str t → t = []) (q : P (.int 0) ⟨st, w⟩) : Ok (callN pgA wfA (d + 6) F__law_said [v]) ⟨st, w⟩ P := by
  refine ok_callN (df := d__law_said) rfl rfl ?_
  simp only [d__law_said]
  rw [okt_cons, okt_asg, ok_k, okt_cons]
  refine okt_tr (okE_cons (okE_ex (okE_call ?_)))
  rw [ok_cons, ok_var (v := v) rfl, ok_nil]
  refine parse_odd (d := d) hv h0 ?_
  refine ⟨exis_wk, ?_⟩
  rw [okt_cons, okt_asg, ok_k, okt_cons, okt_asg]
  refine ok_xat rfl rfl ?_
  rw [okt_nil, okt_cons, okt_ret, ok_var (v := .int 0) rfl]
  exact lv0 (Nat.le_refl _) rfl q
end
end PI.MX
end

section
set_option Elab.async false
set_option linter.all false
set_option maxRecDepth 100000
/-! PyF5: rows changed (k02). -/
namespace PI.MX
/-- what a list of texts takes, each with one sign more -/
def wt (xs : List Tx) : Nat := (xs.map fun x => x.length + 1).sum
theorem wt_app {xs ys : List Tx} : wt (xs ++ ys) = wt xs + wt ys := by simp [wt]
theorem wt_one {x : Tx} : wt [x] = x.length + 1 := by simp [wt]
theorem wt_cons {x : Tx} {xs : List Tx} : wt (x :: xs) = x.length + 1 + wt xs := by simp [wt]
theorem wt_len : ∀ {xs : List Tx}, xs.length ≤ wt xs
  | [] => Nat.zero_le _
  | x :: r => by
    have := wt_len (xs := r)
    rw [wt_cons, List.length_cons]
    omega
theorem wt_take {k : Nat} {xs : List Tx} : wt (xs.take k) ≤ wt xs := by
  have h := wt_app (xs := xs.take k) (ys := xs.drop k)
  rw [List.take_append_drop] at h
  omega
theorem wt_drop {k : Nat} {xs : List Tx} : wt (xs.drop k) ≤ wt xs := by
  have h := wt_app (xs := xs.take k) (ys := xs.drop k)
  rw [List.take_append_drop] at h
  omega
theorem wt_mem {x : Tx} : ∀ {xs : List Tx}, x ∈ xs → x.length + 1 ≤ wt xs
  | y :: r, h => by
    rw [wt_cons]
    rcases List.mem_cons.mp h with rfl | h
    · omega
    · have := wt_mem h
      omega
theorem wt_split {c : Nat} : ∀ {s acc : Tx}, wt (splitT c acc s) = acc.length + s.length + 1
  | [], acc => by simp [splitT, wt]
  | x :: r, acc => by
    unfold splitT
    split
    · rw [wt_cons, wt_split]
      simp
      omega
    · rw [wt_split]
      simp
      omega
theorem wt_join {s : Tx} (hs : s.length = 1) : ∀ {xs : List Tx}, (joinT s xs).length ≤ wt xs
  | [] => by simp [joinT, wt]
  | [x] => by
    rw [wt_one]
    show x.length ≤ _
    omega
  | x :: y :: r => by
    have := wt_join hs (xs := y :: r)
    rw [joinT_cons2, wt_cons]
    simp only [List.length_append]
    omega
theorem wt_sum {xs : List Tx} : (xs.map (·.length)).sum + xs.length * 1 = wt xs := by
  induction xs with
  | nil => rfl
  | cons x r ih =>
    rw [wt_cons, ← ih]
    simp
    omega
theorem firstW_mem {row : Tx} : firstW row ∈ splitT 32 [] row := by
  obtain ⟨a, r, e⟩ : ∃ a r, splitT 32 [] row = a :: r := List.exists_cons_of_ne_nil splitT_ne
  unfold firstW
  rw [e]
  exact List.mem_cons_self ..
theorem firstW_len {row : Tx} : (firstW row).length ≤ row.length := by
  have := splitT_mem (firstW_mem (row := row))
  simpa using this
section
variable {st tl : List Ob} {r k : Nat} {a b a2 b2 : Int} {o : Ob}
theorem UT_set (hr : r < st.length) : (st.set r (feedO a b) ++ tl).set r (feedO a2 b2) = st.set r (feedO a2 b2) ++ tl := by
  rw [List.set_append_left _ _ (by rw [List.length_set]; exact hr), List.set_set]
theorem UT_k : (st.set r (feedO a b) ++ tl)[st.length + k]? = tl[k]? := by
  have := stk (a := st.set r (feedO a b)) (b := tl) (k := k)
  rwa [List.length_set] at this
theorem UT_len : (st.set r (feedO a b) ++ tl).length = st.length + tl.length := by rw [List.length_append, List.length_set]
theorem lvU {w w' : Nat} {v : Val} {P : Val → S → Prop} (hw : st.length ≤ w') (hv : hasRef v = false) (q : P v ⟨st.set r o, w⟩) : Ok (leave st.length w v) ⟨st.set r o ++ tl, w'⟩ P := by
  have := lv (st := st.set r o) (tl := tl) (w := w) (w' := w') (v := v) (P := P) (by rw [List.length_set]; exact hw) hv q
  rwa [List.length_set] at this
theorem start_set (h : st[r]? = some (feedO a b)) : st = st.set r (feedO a b) ++ [] := by
  have hr := (List.getElem?_eq_some_iff.mp h).1
  rw [List.getElem?_eq_getElem hr] at h
  rw [List.append_nil, ← Option.some.inj h]
  exact (List.set_getElem_self hr).symm
end
/-- the first words of rows -/
theorem firsts_ok {g : G} {fr : Fr} {T : List Ob} {w0 q1 iv j : Nat} {rows : List Tx} {Q : Val → S → Prop} (hiv : fr[iv]? = some (some (.ref q1))) (hj : j < fr.length) (hT : T[q1]? = some (.lst (svs rows))) (hm : ∀ x ∈ rows, x.length + 2 ≤ lim) (rl : rows.length ≤ lim)
    (q : ∀ tl, Q (.ref (T ++ tl).length) ⟨T ++ tl ++ [.lst (svs (rows.map firstW))], w0⟩) : Ok (ev g fr (E.comp (E.idx (E.bm Bm.split (E.var j) (Es.cons (E.k (Val.str [32])) Es.nil)) (E.k (Val.int 0))) (Tg.var j) Ik.seq (Es.cons (E.var iv) Es.nil) E.no)) ⟨T, w0⟩ Q := by
  rw [ok_comp, ok_cons, ok_var hiv, ok_nil, ok_srcV (s := ⟨T, w0⟩) hT]
  refine ⟨rfl, ?_⟩
  rw [srcLen_live (s := ⟨T, w0⟩) hT]
  refine ok_compN (xs := svs rows) (fun i acc s => acc = svs ((rows.take i).map firstW) ∧ ∃ tl, s = ⟨T ++ tl, w0⟩) (fun i acc s h => by obtain ⟨_, tl, rfl⟩ := h; exact src_live (s := ⟨T ++ tl, w0⟩) (sto hT)) ?_ ?_ (svs rows).length 0 [] _ (by simp) ⟨rfl, [], by rw [List.append_nil]⟩
  · rintro i v acc s hv ⟨rfl, tl, rfl⟩
    unfold svs at hv
    rw [List.getElem?_map] at hv
    obtain ⟨x, hx, rfl⟩ := Option.map_eq_some_iff.mp hv
    have hx2 := hm x (List.mem_of_getElem? hx)
    have hi := (List.getElem?_eq_some_iff.mp hx).1
    refine (turn_no (t := .var j) (v := .str x) (fr' := (wipeF fr [j]).set j (some (.str x))) rfl).mpr ?_
    have hl : j < (wipeF fr [j]).length := by
      show j < (fr.set j none).length
      rw [List.length_set]
      exact hj
    have at_ : ((wipeF fr [j]).set j (some (.str x)))[j]? = some (some (.str x)) := List.getElem?_set_self hl
    rw [ok_idx, ok_bm, ok_var at_, ok_bmChkS]
    refine ⟨rfl, ?_⟩
    rw [ok_cons, ok_k, ok_nil, ok_split]
    refine ⟨by rw [decide_eq_true hx2]; rfl, ?_⟩
    rw [ok_k, ok_idxRef]
    obtain ⟨a, r, e⟩ : ∃ a r, splitT 32 [] x = a :: r := List.exists_cons_of_ne_nil splitT_ne
    refine ⟨svs (splitT 32 [] x), by rw [st0]; rfl, .str a, by rw [e]; exact atI_0, ?_, ?_, _, by rw [List.append_assoc]⟩
    · show (svs _).length < lim
      rw [svs_len, List.length_map, List.length_take]
      omega
    · rw [List.take_add_one, hx]
      have : firstW x = a := by unfold firstW; rw [e]; rfl
      simp [svs, this]
  · rintro acc s ⟨rfl, tl, rfl⟩
    rw [svs_len, List.take_of_length_le (Nat.le_refl _)]
    exact q tl
end PI.MX
end

section
set_option Elab.async false
set_option linter.all false
set_option maxRecDepth 100000
/-! PyF6: _law_other_row (k02). -/
namespace PI.MX
def oddW : List Tx := [[115, 116, 97, 121], [45, 62], [], [48], [49], [51], [52], [57], [49, 48], [48, 49], [45, 49], [97], [122, 122], [65, 98], [97, 98, 99, 100, 101, 102, 103, 104, 105], [45], [62]]
def oddW2 : List Tx := [[43, 49], [43, 51], [32, 49], [49, 46, 48], [49, 95, 48]]
theorem oddW_len {x : Tx} (h : x ∈ oddW ++ oddW2) : x.length ≤ 9 := by
  have k : ∀ x ∈ oddW ++ oddW2, x.length ≤ 9 := by decide
  exact k x h
theorem svs_app {xs ys : List Tx} : svs xs ++ svs ys = svs (xs ++ ys) := by unfold svs; rw [List.map_append]
theorem ok_joinS {r : Nat} {ss : List Tx} {c : Nat} {s : S} {Q : Val → S → Prop} (h : s.st[r]? = some (.lst (svs ss))) (hl : wt ss ≤ lim) (q : Q (.str (joinT [c] ss)) s) : Ok (bmv .join (.str [c]) [.ref r]) s Q := by
  rw [ok_joinR]
  refine ⟨_, h, ss, strsOf_strs, decide_eq_true ?_, q⟩
  have := wt_sum (xs := ss)
  simp only [List.length_cons, List.length_nil]
  omega
theorem mem_svs {xs : List Tx} {v : Val} (h : v ∈ svs xs) : ∃ x ∈ xs, v = .str x := by
  obtain ⟨x, hx, rfl⟩ := List.mem_map.mp h
  exact ⟨x, hx, rfl⟩
section
variable {d w r q1 : Nat} {st : List Ob} {P : Val → S → Prop}
theorem other_row_ok {a b : Int} {rows : List Tx} {row : Tx} {at_ N : Nat} (h : st[r]? = some (feedO a b)) (hx : st[q1]? = some (.lst (svs rows))) (hne : q1 ≠ r) (hat : rows[at_]? = some row) (hN : ∀ x ∈ rows, x.length ≤ N) (rl : rows.length ≤ N + 1) (hb : N ≤ 250000)
    (q : ∀ t a2 b2, t.length ≤ 3 * N + 30 → P (.str t) ⟨st.set r (feedO a2 b2), w⟩) : Ok (callN pgA wfA (d + 3) F__law_other_row [.ref r, .ref q1, .int (at_ : Int)]) ⟨st, w⟩ P := by
  have hr : r < st.length := (List.getElem?_eq_some_iff.mp h).1
  refine ok_callN (df := d__law_other_row) rfl rfl ?_
  have rowN := hN row (List.mem_of_getElem? hat)
  have hm : ∀ x ∈ rows, x.length + 2 ≤ lim := fun x m => by
    have := hN x m
    unfold lim
    omega
  have big : ∀ n, n ≤ 3000000 → decide (n ≤ lim) = true := fun n hn => decide_eq_true (by unfold lim; omega)
  obtain ⟨ws, hws⟩ : ∃ ws, ws = splitT 32 [] row := ⟨_, rfl⟩
  have wW : wt ws = row.length + 1 := by rw [hws, wt_split]; simp
  have wL : ws.length ≤ row.length + 1 := by rw [← wW]; exact wt_len
  have wne : 1 ≤ ws.length := by
    have := splitT_ne (c := 32) (s := row) (acc := [])
    rw [← hws] at this
    cases ws with
    | nil => exact absurd rfl this
    | cons _ _ => simp
  have start : OkT (exTs ⟨callN pgA wfA (d + 2), pgA, none, wfA⟩ d__law_other_row.body [some (.ref r), some (.ref q1), some (.int (at_ : Int)), none, none, none, none, none, none, none, none, none] ⟨st.set r (feedO a b) ++ [], st.length⟩) (fun _ s2 => Ok (leave st.length w .non) s2 P) (fun v s2 => Ok (leave st.length w v) s2 P) := by
    have X : ∀ (a b : Int) (tl : List Ob), (st.set r (feedO a b) ++ tl)[q1]? = some (.lst (svs rows)) := fun a b tl => sto (by rw [List.getElem?_set_ne (Ne.symm hne)]; exact hx)
    simp only [d__law_other_row]
    rw [okt_cons, okt_par, ok_bm, ok_idx, ok_var (v := .ref q1) rfl, ok_var (v := .int (at_ : Int)) rfl, ok_idxRef]
    refine ⟨_, X _ _ _, .str row, atI_n (by unfold svs; rw [List.getElem?_map, hat]; rfl), ?_⟩
    rw [ok_bmChkS]
    refine ⟨rfl, ?_⟩
    rw [ok_cons, ok_k, ok_nil, ok_split]
    refine ⟨by rw [decide_eq_true (hm row (List.mem_of_getElem? hat))]; rfl, ?_⟩
    rw [← hws]
    refine firsts_ok (q1 := q1) (iv := 1) (j := 11) rfl (by simp) (by rw [List.append_assoc]; exact X _ _ _) hm (by unfold lim; omega) fun tl => ?_
    simp only [List.nil_append, List.append_assoc]
    obtain ⟨fs, hfs⟩ : ∃ fs, fs = rows.map firstW := ⟨_, rfl⟩
    have fl : fs.length ≤ N + 1 := by rw [hfs, List.length_map]; exact rl
    have fN : ∀ x ∈ fs, x.length ≤ N := fun x m => by
      rw [hfs] at m
      obtain ⟨y, hy, rfl⟩ := List.mem_map.mp m
      exact Nat.le_trans firstW_len (hN y hy)
    have wN : ∀ x ∈ ws, x.length ≤ N := fun x m => by
      have := wt_mem m
      omega
    rw [← hfs]
    -- the words at k7 = 0, the first words at k8
    obtain ⟨t1, ht1⟩ : ∃ t1, t1 = Ob.lst (svs ws) :: (tl ++ [Ob.lst (svs fs)]) := ⟨_, rfl⟩
    have y7 : t1[0]? = some (.lst (svs ws)) := by rw [ht1]; rfl
    have y8 : t1[tl.length + 1]? = some (.lst (svs fs)) := by rw [ht1, List.getElem?_cons_succ, st0]; rfl
    have fe : (List.set (List.set [some (Val.ref r), some (Val.ref q1), some (Val.int (at_ : Int)), none, none, none, none, none, none, none, none, none] 7 (some (Val.ref (st.set r (feedO a b) ++ []).length))) 8 (some (Val.ref (st.set r (feedO a b) ++ ([Ob.lst (svs ws)] ++ tl)).length))) = [some (Val.ref r), some (Val.ref q1), some (Val.int (at_ : Int)), none, none, none, none, some (.ref (st.length + 0)), some (.ref (st.length + (tl.length + 1))), none, none, none] := by
      simp [List.length_set]
    show OkT (exTs _ _ (List.set (List.set [some (Val.ref r), some (Val.ref q1), some (Val.int (at_ : Int)), none, none, none, none, none, none, none, none, none] 7 (some (Val.ref (st.set r (feedO a b) ++ []).length))) 8 (some (Val.ref (st.set r (feedO a b) ++ ([Ob.lst (svs ws)] ++ tl)).length))) ⟨st.set r (feedO a b) ++ (Ob.lst (svs ws) :: (tl ++ [Ob.lst (svs fs)])), st.length⟩) _ _
    rw [fe, ← ht1]
    rw [okt_cons, okt_asg, ok_call, ok_cons, ok_var (v := .ref r) rfl, ok_cons, ok_bf, ok_cons, ok_var (v := .ref (st.length + 0)) rfl, ok_nil, ok_lenRef]
    refine ⟨_, by rw [UT_k]; exact y7, ?_⟩
    rw [ok_nil, svs_len]
    refine take_okS (d := d + 1) hr (by omega) (by omega) fun v a2 b2 v0 v1 => ?_
    obtain ⟨pl, rfl⟩ : ∃ pl : Nat, v = (pl : Int) := ⟨v.toNat, by omega⟩
    have hpl : pl < ws.length := by omega
    -- the odd words
    rw [okt_cons, okt_asg, ok_lst, ok_cons, ok_k, ok_cons, ok_k, ok_cons, ok_k, ok_cons, ok_k, ok_cons, ok_k, ok_cons, ok_k, ok_cons, ok_k, ok_cons, ok_k, ok_cons, ok_k, ok_cons, ok_k, ok_cons, ok_k, ok_cons, ok_k, ok_cons, ok_k, ok_cons, ok_k, ok_cons, ok_k, ok_cons, ok_k, ok_cons, ok_k, ok_nil]
    refine ⟨by decide, ?_⟩
    rw [ok_alloc, okt_cons, okt_asg, ok_op]
    simp only [List.append_assoc, List.length_append, List.length_set]
    obtain ⟨n, hn⟩ : ∃ n, n = t1.length := ⟨_, rfl⟩
    rw [← hn]
    have at1 : ∀ (t2 : List Ob) (j : Nat), (t1 ++ t2)[n + j]? = t2[j]? := fun t2 j => by rw [hn, stk]
    have at10 : ∀ (t2 : List Ob), (t1 ++ t2)[n]? = t2[0]? := fun t2 => at1 t2 0
    have k0 : ∀ t2, (t1 ++ t2)[0]? = some (.lst (svs ws)) := fun t2 => sto y7
    have k8 : ∀ t2, (t1 ++ t2)[tl.length + 1]? = some (.lst (svs fs)) := fun t2 => sto y8
    show Ok (ev ⟨callN pgA wfA (d + 2), pgA, none, wfA⟩ [some (.ref r), some (.ref q1), some (.int (at_ : Int)), some (.int (pl : Int)), some (.ref (st.length + n)), none, none, some (.ref (st.length + 0)), some (.ref (st.length + (tl.length + 1))), none, none, none] (.var 4)) ⟨st.set r (feedO a2 b2) ++ (t1 ++ [.lst (svs oddW)]), st.length⟩ _
    rw [ok_var (v := .ref (st.length + n)) rfl, ok_lst, ok_cons, ok_k, ok_cons, ok_k, ok_cons, ok_k, ok_cons, ok_k, ok_cons, ok_k, ok_nil]
    refine ⟨by decide, ?_⟩
    rw [ok_alloc, ok_addL]
    simp only [List.append_assoc, List.length_append, List.length_set, List.length_cons, List.length_nil]
    rw [← hn]
    refine ⟨svs oddW, by rw [UT_k, at10]; rfl, svs oddW2, by rw [UT_k, at1]; rfl, by decide, ?_⟩
    rw [svs_app]
    obtain ⟨od, hod⟩ : ∃ od, od = oddW ++ oddW2 := ⟨_, rfl⟩
    have odl : od.length = 22 := by rw [hod]; rfl
    rw [← hod]
    show OkT (exTs _ _ [some (.ref r), some (.ref q1), some (.int (at_ : Int)), some (.int (pl : Int)), some (.ref (st.length + (n + (0 + 1 + (0 + 1))))), none, none, some (.ref (st.length + 0)), some (.ref (st.length + (tl.length + 1))), none, none, none] ⟨st.set r (feedO a2 b2) ++ (t1 ++ ([.lst (svs oddW)] ++ ([.lst (svs oddW2)] ++ [.lst (svs od)]))), st.length⟩) _ _
    obtain ⟨t2, ht2⟩ : ∃ t2, t2 = [Ob.lst (svs oddW)] ++ ([Ob.lst (svs oddW2)] ++ [Ob.lst (svs od)]) := ⟨_, rfl⟩
    rw [← ht2]
    -- one word
    rw [okt_cons, okt_asg, ok_call, ok_cons, ok_var (v := .ref r) rfl, ok_cons, ok_op, ok_op, ok_op, ok_var (v := .ref (st.length + (n + (0 + 1 + (0 + 1))))) rfl, ok_var (v := .ref (st.length + (tl.length + 1))) rfl, ok_addL]
    refine ⟨svs od, by rw [UT_k, at1, ht2]; rfl, svs fs, by rw [UT_k]; exact k8 _, big _ (by rw [svs_len, svs_len]; omega), ?_⟩
    rw [svs_app, ok_var (v := .ref (st.length + (tl.length + 1))) rfl, ok_addL]
    simp only [List.append_assoc, List.length_append, List.length_set]
    rw [← hn]
    have l2 : t2.length = 3 := by rw [ht2]; rfl
    rw [l2]
    refine ⟨svs (od ++ fs), ?_, svs fs, by rw [UT_k]; exact k8 _, big _ (by rw [svs_len, svs_len, List.length_append]; omega), ?_⟩
    · rw [UT_k, at1, ← l2, st0]; rfl
    rw [svs_app, ok_var (v := .ref (st.length + 0)) rfl, ok_addL]
    simp only [List.append_assoc, List.length_append, List.length_set, List.length_cons, List.length_nil]
    rw [← hn, l2]
    refine ⟨svs (od ++ (fs ++ fs)), ?_, svs ws, by rw [UT_k]; exact k0 _, big _ (by rw [svs_len, svs_len, List.length_append, List.length_append]; omega), ?_⟩
    · rw [UT_k, at1, ← l2, stk]; rfl
    rw [svs_app, ok_nil]
    simp only [List.append_assoc, List.length_append, List.length_set, List.length_cons, List.length_nil]
    obtain ⟨all, hall⟩ : ∃ all, all = od ++ (fs ++ (fs ++ ws)) := ⟨_, rfl⟩
    have alll : all.length = 22 + (fs.length + (fs.length + ws.length)) := by rw [hall]; simp [odl]
    have allN : ∀ x ∈ all, x.length ≤ N + 9 := fun x m => by
      rw [hall] at m
      simp only [List.mem_append] at m
      rcases m with m | m | m | m
      · have := oddW_len (x := x) (by rw [← hod]; exact m)
        omega
      · have := fN x m
        omega
      · have := fN x m
        omega
      · have := wN x m
        omega
    rw [← hall]
    obtain ⟨t3, ht3⟩ : ∃ t3, t3 = t2 ++ ([Ob.lst (svs (od ++ fs))] ++ ([Ob.lst (svs (od ++ (fs ++ fs)))] ++ [Ob.lst (svs all)])) := ⟨_, rfl⟩
    rw [← ht3]
    refine pick_okS (d := d) (k := n + (3 + (0 + 1 + (0 + 1)))) (xs := svs all) hr ?_ (by rw [svs_len]; omega) (by rw [svs_len]; omega) (fun v hv => ?_) ?_
    · rw [at1, ht3, ← l2, stk]; rfl
    · obtain ⟨x, _, rfl⟩ := mem_svs hv
      exact .inl rfl
    intro v a3 b3 hv
    obtain ⟨one, hone, rfl⟩ := mem_svs hv
    have oneN := allN one hone
    have l3 : t3.length = 6 := by rw [ht3, List.length_append, l2]; rfl
    -- ahead, behind
    show OkT (exTs _ _ [some (.ref r), some (.ref q1), some (.int (at_ : Int)), some (.int (pl : Int)), some (.ref (st.length + (n + (0 + 1 + (0 + 1))))), some (.str one), none, some (.ref (st.length + 0)), some (.ref (st.length + (tl.length + 1))), none, none, none] ⟨st.set r (feedO a3 b3) ++ (t1 ++ t3), st.length⟩) _ _
    rw [okt_cons, okt_par, ok_slc, ok_var (v := .ref (st.length + 0)) rfl]
    simp only [ok_intM, ok_ret]
    rw [ok_var (v := .int (pl : Int)) rfl]
    refine ⟨pl, rfl, ?_⟩
    rw [ok_slcR]
    refine ⟨_, by rw [UT_k]; exact k0 _, ?_⟩
    rw [cut_take, svs_take, ok_slc, ok_var (v := .ref (st.length + 0)) rfl]
    simp only [ok_intM]
    rw [ok_op, ok_var (v := .int (pl : Int)) rfl, ok_k, ok_addI]
    refine ⟨pl + 1, rfl, ?_⟩
    rw [ok_ret, ok_slcR]
    simp only [List.append_assoc, List.length_append, List.length_set, List.length_cons, List.length_nil]
    rw [← hn, l3]
    refine ⟨_, by rw [UT_k]; exact k0 _, ?_⟩
    rw [show cut (svs ws) (some ((pl : Int) + 1)) none = (svs ws).drop (pl + 1) from cut_drop (k := pl + 1), svs_drop]
    obtain ⟨ah, hah⟩ : ∃ ah, ah = ws.take pl := ⟨_, rfl⟩
    obtain ⟨be, hbe⟩ : ∃ be, be = ws.drop (pl + 1) := ⟨_, rfl⟩
    have wA : wt ah ≤ row.length + 1 := by rw [hah, ← wW]; exact wt_take
    have wB : wt be ≤ row.length + 1 := by rw [hbe, ← wW]; exact wt_drop
    have lA := wt_len (xs := ah)
    have lB := wt_len (xs := be)
    rw [← hah, ← hbe]
    obtain ⟨t4, ht4⟩ : ∃ t4, t4 = t3 ++ ([Ob.lst (svs ah)] ++ [Ob.lst (svs be)]) := ⟨_, rfl⟩
    have l4 : t4.length = 8 := by rw [ht4, List.length_append, l3]; rfl
    rw [← ht4]
    have k9 : ∀ t5, (t1 ++ (t4 ++ t5))[n + 6]? = some (.lst (svs ah)) := fun t5 => by rw [at1]; refine sto ?_; rw [ht4, ← l3, st0]; rfl
    have k10 : ∀ t5, (t1 ++ (t4 ++ t5))[n + 7]? = some (.lst (svs be)) := fun t5 => by rw [at1]; refine sto ?_; rw [ht4, show 7 = t3.length + 1 by rw [l3], stk]; rfl
    have k90 : (t1 ++ t4)[n + 6]? = some (.lst (svs ah)) := by have := k9 []; rwa [List.append_nil] at this
    have k100 : (t1 ++ t4)[n + 7]? = some (.lst (svs be)) := by have := k10 []; rwa [List.append_nil] at this
    show OkT (exTs _ _ [some (.ref r), some (.ref q1), some (.int (at_ : Int)), some (.int (pl : Int)), some (.ref (st.length + (n + (0 + 1 + (0 + 1))))), some (.str one), none, some (.ref (st.length + 0)), some (.ref (st.length + (tl.length + 1))), some (.ref (st.length + (n + 6))), some (.ref (st.length + (n + 7))), none] ⟨st.set r (feedO a3 b3) ++ (t1 ++ t4), st.length⟩) _ _
    have at4 : ∀ (X : List Ob) (j : Nat), (t1 ++ (t4 ++ X))[n + (8 + j)]? = X[j]? := fun X j => by rw [at1, ← l4, stk]
    have one1 : decide ((1 : Nat) ≤ lim) = true := by decide
    have big2 : ∀ {xs ys : List Tx}, wt xs ≤ 1000000 → wt ys ≤ 1000000 → decide ((svs xs).length + (svs ys).length ≤ lim) = true := fun {xs ys} h1 h2 => by
      have k1 := wt_len (xs := xs)
      have k2 := wt_len (xs := ys)
      rw [svs_len, svs_len]
      exact big _ (by omega)
    have w1 : wt [one] ≤ N + 10 := by rw [wt_one]; omega
    obtain ⟨dr, hdr⟩ : ∃ dr, dr = ws.drop pl := ⟨_, rfl⟩
    have wD : wt dr ≤ row.length + 1 := by rw [hdr, ← wW]; exact wt_drop
    obtain ⟨zs, hzs, wZ⟩ : ∃ zs, cut (svs ws) (some (-2)) none = svs zs ∧ wt zs ≤ row.length + 1 := by
      refine ⟨(ws.drop (sIx (svs ws).length 0 (some (-2)))).take (sIx (svs ws).length (svs ws).length none - sIx (svs ws).length 0 (some (-2))), ?_, ?_⟩
      · unfold cut
        rw [svs_drop, svs_take]
      · rw [← wW]
        exact Nat.le_trans wt_take wt_drop
    have wWs : wt ws ≤ row.length + 1 := by omega
    have so : ∀ one : Tx, [Val.str one] = svs [one] := fun _ => rfl
    -- the first three lists
    rw [okt_cons, okt_asg, ok_lst, ok_cons, ok_op, ok_op, ok_var (v := .ref (st.length + (n + 6))) rfl, ok_lst, ok_cons, ok_var (v := .str one) rfl, ok_nil]
    refine ⟨one1, ?_⟩
    rw [ok_alloc, so, ok_addL]
    simp only [List.append_assoc, List.length_append, List.length_set, List.length_cons, List.length_nil]
    rw [← hn, l4]
    refine ⟨svs ah, by rw [UT_k]; exact k9 _, svs [one], by rw [UT_k]; exact at4 _ 0, big2 (by omega) (by omega), ?_⟩
    rw [svs_app, ok_var (v := .ref (st.length + (n + 7))) rfl, ok_addL]
    simp only [List.append_assoc, List.length_append, List.length_set, List.length_cons, List.length_nil]
    rw [← hn, l4]
    have wC : wt (ah ++ [one]) ≤ row.length + 1 + (N + 10) := by rw [wt_app]; omega
    refine ⟨svs (ah ++ [one]), by rw [UT_k]; exact at4 _ 1, svs be, by rw [UT_k]; exact k10 _, big2 (by omega) (by omega), ?_⟩
    rw [svs_app, ok_cons, ok_op, ok_op, ok_var (v := .ref (st.length + (n + 6))) rfl, ok_lst, ok_cons, ok_var (v := .str one) rfl, ok_nil]
    refine ⟨one1, ?_⟩
    rw [ok_alloc, so, ok_addL]
    simp only [List.append_assoc, List.length_append, List.length_set, List.length_cons, List.length_nil]
    rw [← hn, l4]
    refine ⟨svs ah, by rw [UT_k]; exact k9 _, svs [one], by rw [UT_k]; exact at4 _ 3, big2 (by omega) (by omega), ?_⟩
    rw [svs_app, ok_slc, ok_var (v := .ref (st.length + 0)) rfl]
    simp only [ok_intM, ok_ret]
    rw [ok_var (v := .int (pl : Int)) rfl]
    refine ⟨pl, rfl, ?_⟩
    rw [ok_slcR]
    refine ⟨svs ws, by rw [UT_k]; exact k0 _, ?_⟩
    rw [show cut (svs ws) (some (pl : Int)) none = (svs ws).drop pl from cut_drop (k := pl), svs_drop, ← hdr, ok_addL]
    simp only [List.append_assoc, List.length_append, List.length_set, List.length_cons, List.length_nil]
    rw [← hn, l4]
    refine ⟨svs (ah ++ [one]), by rw [UT_k]; exact at4 _ 4, svs dr, by rw [UT_k]; exact at4 _ 5, big2 (by omega) (by omega), ?_⟩
    rw [svs_app, ok_cons, ok_op, ok_var (v := .ref (st.length + (n + 6))) rfl, ok_var (v := .ref (st.length + (n + 7))) rfl, ok_addL]
    simp only [List.append_assoc, List.length_append, List.length_set, List.length_cons, List.length_nil]
    rw [← hn, l4]
    refine ⟨svs ah, by rw [UT_k]; exact k9 _, svs be, by rw [UT_k]; exact k10 _, big2 (by omega) (by omega), ?_⟩
    rw [svs_app, ok_nil]
    refine ⟨by decide, ?_⟩
    rw [ok_alloc]
    simp only [List.append_assoc, List.length_append, List.length_set, List.length_cons, List.length_nil]
    rw [← hn, l4]
    obtain ⟨t5, ht5⟩ : ∃ t5, t5 = [Ob.lst (svs [one]), .lst (svs (ah ++ [one])), .lst (svs (ah ++ ([one] ++ be))), .lst (svs [one]), .lst (svs (ah ++ [one])), .lst (svs dr), .lst (svs (ah ++ ([one] ++ dr))), .lst (svs (ah ++ be)), .lst [.ref (st.length + (n + 10)), .ref (st.length + (n + 14)), .ref (st.length + (n + 15))]] := ⟨_, rfl⟩
    have l5 : t5.length = 9 := by rw [ht5]; rfl
    show OkT (exTs _ _ [some (.ref r), some (.ref q1), some (.int (at_ : Int)), some (.int (pl : Int)), some (.ref (st.length + (n + (0 + 1 + (0 + 1))))), some (.str one), some (.ref (st.length + (n + 16))), some (.ref (st.length + 0)), some (.ref (st.length + (tl.length + 1))), some (.ref (st.length + (n + 6))), some (.ref (st.length + (n + 7))), none] ⟨st.set r (feedO a3 b3) ++ (t1 ++ (t4 ++ [Ob.lst (svs [one]), .lst (svs (ah ++ [one])), .lst (svs (ah ++ ([one] ++ be))), .lst (svs [one]), .lst (svs (ah ++ [one])), .lst (svs dr), .lst (svs (ah ++ ([one] ++ dr))), .lst (svs (ah ++ be)), .lst [.ref (st.length + (n + 10)), .ref (st.length + (n + 14)), .ref (st.length + (n + 15))]])), st.length⟩) _ _
    rw [← ht5]
    have at5 : ∀ (X : List Ob) (j : Nat), (t1 ++ (t4 ++ (t5 ++ X)))[n + (8 + (9 + j))]? = X[j]? := fun X j => by rw [at4, ← l5, stk]
    have in5 : ∀ (X : List Ob) (j : Nat) (o : Ob), t5[j]? = some o → (t1 ++ (t4 ++ (t5 ++ X)))[n + (8 + j)]? = some o := fun X j o e => by rw [at4]; exact sto e
    -- two more
    rw [okt_cons, okt_asg, ok_op, ok_var (v := .ref (st.length + (n + 16))) rfl, ok_lst, ok_cons, ok_op, ok_var (v := .ref (st.length + 0)) rfl, ok_lst, ok_cons, ok_var (v := .str one) rfl, ok_nil]
    refine ⟨one1, ?_⟩
    rw [ok_alloc, so, ok_addL]
    simp only [List.append_assoc, List.length_append, List.length_set, List.length_cons, List.length_nil]
    rw [← hn, l4, l5]
    refine ⟨svs ws, by rw [UT_k]; exact k0 _, svs [one], by rw [UT_k]; exact at5 _ 0, big2 (by omega) (by omega), ?_⟩
    rw [svs_app, ok_cons, ok_op, ok_var (v := .ref (st.length + 0)) rfl, ok_slc, ok_var (v := .ref (st.length + 0)) rfl]
    simp only [ok_intM]
    rw [ok_neg, ok_k]
    refine ⟨2, rfl, -2, rfl, ?_⟩
    rw [ok_ret, ok_slcR]
    refine ⟨svs ws, by rw [UT_k]; exact k0 _, ?_⟩
    rw [hzs, ok_addL]
    simp only [List.append_assoc, List.length_append, List.length_set, List.length_cons, List.length_nil]
    rw [← hn, l4, l5]
    refine ⟨svs ws, by rw [UT_k]; exact k0 _, svs zs, by rw [UT_k]; exact at5 _ 2, big2 (by omega) (by omega), ?_⟩
    rw [svs_app, ok_nil]
    refine ⟨by decide, ?_⟩
    rw [ok_alloc, ok_addL]
    simp only [List.append_assoc, List.length_append, List.length_set, List.length_cons, List.length_nil]
    rw [← hn, l4, l5]
    refine ⟨[.ref (st.length + (n + 10)), .ref (st.length + (n + 14)), .ref (st.length + (n + 15))], by rw [UT_k]; exact in5 _ 8 _ (by rw [ht5]; rfl), [.ref (st.length + (n + (8 + (9 + 1)))), .ref (st.length + (n + (8 + (9 + 3))))], by rw [UT_k]; exact at5 _ 4, big _ (by simp), ?_⟩
    obtain ⟨t6, ht6⟩ : ∃ t6, t6 = [Ob.lst (svs [one]), .lst (svs (ws ++ [one])), .lst (svs zs), .lst (svs (ws ++ zs)), .lst [.ref (st.length + (n + (8 + (9 + 1)))), .ref (st.length + (n + (8 + (9 + 3))))], .lst [.ref (st.length + (n + 10)), .ref (st.length + (n + 14)), .ref (st.length + (n + 15)), .ref (st.length + (n + (8 + (9 + 1)))), .ref (st.length + (n + (8 + (9 + 3))))]] := ⟨_, rfl⟩
    show OkT (exTs _ _ [some (.ref r), some (.ref q1), some (.int (at_ : Int)), some (.int (pl : Int)), some (.ref (st.length + (n + (0 + 1 + (0 + 1))))), some (.str one), some (.ref (st.length + (n + (8 + (9 + 5))))), some (.ref (st.length + 0)), some (.ref (st.length + (tl.length + 1))), some (.ref (st.length + (n + 6))), some (.ref (st.length + (n + 7))), none] ⟨st.set r (feedO a3 b3) ++ (t1 ++ (t4 ++ (t5 ++ [Ob.lst (svs [one]), .lst (svs (ws ++ [one])), .lst (svs zs), .lst (svs (ws ++ zs)), .lst [.ref (st.length + (n + (8 + (9 + 1)))), .ref (st.length + (n + (8 + (9 + 3))))], .lst [.ref (st.length + (n + 10)), .ref (st.length + (n + 14)), .ref (st.length + (n + 15)), .ref (st.length + (n + (8 + (9 + 1)))), .ref (st.length + (n + (8 + (9 + 3))))]]))), st.length⟩) _ _
    rw [← ht6, okt_cons, okt_ret, ok_bm, ok_k, ok_bmChkS]
    refine ⟨rfl, ?_⟩
    rw [ok_cons, ok_call, ok_cons, ok_var (v := .ref r) rfl, ok_cons, ok_var (v := .ref (st.length + (n + (8 + (9 + 5))))) rfl, ok_nil]
    have l6 : t6.length = 6 := by rw [ht6]; rfl
    refine pick_okS (d := d) (k := n + (8 + (9 + 5))) (xs := [.ref (st.length + (n + 10)), .ref (st.length + (n + 14)), .ref (st.length + (n + 15)), .ref (st.length + (n + (8 + (9 + 1)))), .ref (st.length + (n + (8 + (9 + 3))))]) hr (by rw [at5, ht6]; rfl) (by simp) (by simp) (fun v hv => ?_) ?_
    · simp only [List.mem_cons, List.not_mem_nil, or_false] at hv
      rcases hv with rfl | rfl | rfl | rfl | rfl
      all_goals exact .inr ⟨_, rfl, by simp only [List.length_append]; rw [← hn, l4, l5, l6]; omega⟩
    intro v a4 b4 hv
    rw [ok_nil]
    have fin : ∀ (j : Nat) (ss : List Tx), (t1 ++ (t4 ++ (t5 ++ t6)))[j]? = some (.lst (svs ss)) → wt ss ≤ 3 * N + 30 → Ok (bmv .join (.str [32]) [.ref (st.length + j)]) ⟨st.set r (feedO a4 b4) ++ (t1 ++ (t4 ++ (t5 ++ t6))), st.length⟩ (fun v s2 => Ok (leave st.length w v) s2 P) := fun j ss e hw => by
      refine ok_joinS (ss := ss) (by rw [UT_k]; exact e) (by unfold lim; omega) ?_
      exact lvU (Nat.le_refl _) rfl (q _ a4 b4 (Nat.le_trans (wt_join rfl) hw))
    simp only [List.mem_cons, List.not_mem_nil, or_false] at hv
    rcases hv with rfl | rfl | rfl | rfl | rfl
    · exact fin (n + (8 + 2)) _ (in5 _ 2 _ (by rw [ht5]; rfl)) (by rw [wt_app, wt_app]; omega)
    · exact fin (n + (8 + 6)) _ (in5 _ 6 _ (by rw [ht5]; rfl)) (by rw [wt_app, wt_app]; omega)
    · exact fin (n + (8 + 7)) _ (in5 _ 7 _ (by rw [ht5]; rfl)) (by rw [wt_app]; omega)
    · exact fin (n + (8 + (9 + 1))) (ws ++ [one]) (by rw [at5, ht6]; rfl) (by rw [wt_app]; omega)
    · exact fin (n + (8 + (9 + 3))) (ws ++ zs) (by rw [at5, ht6]; rfl) (by rw [wt_app]; omega)
  have e0 := start_set h
  rw [← e0] at start
  exact start
end
end PI.MX
end

section
set_option Elab.async false
set_option linter.all false
set_option maxRecDepth 100000
/-! PyF7: _law_spoilt (k02). -/
namespace PI.MX
def signA : Tx := [32, 10, 9, 45, 44, 59, 58, 46, 62, 95, 47, 39, 34, 124, 126, 43, 42, 33, 35, 36, 38, 40, 41, 60, 61, 63, 64, 91, 92, 93, 94, 123, 125, 96]
def signB : Tx := [48, 49, 50, 51, 52, 53, 54, 55, 56, 57, 97, 122, 65, 90, 109, 115]
def moreW : List Tx := [[111, 110, 101, 32, 49, 32, 115, 116, 97, 121], [116, 119, 111, 32, 50, 32, 115, 116, 97, 121], [116, 104, 114, 101, 101, 32, 51, 32, 115, 116, 97, 121], [102, 111, 117, 114, 32, 52, 32, 115, 116, 97, 121], [102, 105, 118, 101, 32, 53, 32, 115, 116, 97, 121], [115, 105, 120, 32, 54, 32, 115, 116, 97, 121], [103, 111, 32, 48, 32, 115, 116, 97, 121]]
def sgs (x : Tx) : List Val := x.map fun c => Val.str [c]
theorem sgs_app {x y : Tx} : sgs x ++ sgs y = sgs (x ++ y) := by unfold sgs; rw [List.map_append]
theorem ok_listS' {g : G} {x : Tx} {s : S} {Q : Val → S → Prop} : Ok (bfv g .list [.str x]) s Q ↔ Q (.ref s.st.length) ⟨s.st ++ [.lst (sgs x)], s.w⟩ := Ok_def
section
variable {d w r : Nat} {st : List Ob} {P : Val → S → Prop}
theorem spoilt_text {a b : Int} {text : Tx} (h : st[r]? = some (feedO a b)) (hb : text.length ≤ 250000) (q : ∀ t a2 b2, t.length ≤ 6 * text.length + 200 → P (.str t) ⟨st.set r (feedO a2 b2), w⟩) : Ok (callN pgA wfA (d + 4) F__law_spoilt [.ref r, .str text]) ⟨st, w⟩ P := by
  have hr : r < st.length := (List.getElem?_eq_some_iff.mp h).1
  refine ok_callN (df := d__law_spoilt) rfl rfl ?_
  obtain ⟨rows, hrows⟩ : ∃ rows, rows = splitT 10 [] text := ⟨_, rfl⟩
  have wR : wt rows = text.length + 1 := by rw [hrows, wt_split]; simp
  have lR : rows.length ≤ text.length + 1 := by rw [← wR]; exact wt_len
  have neR : 1 ≤ rows.length := by
    have := splitT_ne (c := 10) (s := text) (acc := [])
    rw [← hrows] at this
    cases rows with
    | nil => exact absurd rfl this
    | cons _ _ => simp
  have nR : ∀ x ∈ rows, x.length ≤ text.length := fun x m => by
    have := wt_mem m
    omega
  have big : ∀ n, n ≤ 3000000 → decide (n ≤ lim) = true := fun n hn => decide_eq_true (by unfold lim; omega)
  have len : ∀ (g : G) (s : S) (Q : Val → S → Prop), Ok (bfv g .len [.str text]) s Q ↔ Q (.int text.length) s := fun g s Q => by
    refine ok_chkR.trans ?_
    rw [big _ (by omega)]
    simp
  have start : OkT (exTs ⟨callN pgA wfA (d + 3), pgA, none, wfA⟩ d__law_spoilt.body [some (.ref r), some (.str text), none, none, none, none, none, none] ⟨st.set r (feedO a b) ++ [], st.length⟩) (fun _ s2 => Ok (leave st.length w .non) s2 P) (fun v s2 => Ok (leave st.length w v) s2 P) := by
    simp only [d__law_spoilt]
    rw [okt_cons, okt_par, ok_bm, ok_var (v := .str text) rfl, ok_bmChkS]
    refine ⟨rfl, ?_⟩
    rw [ok_cons, ok_k, ok_nil, ok_split]
    refine ⟨by rw [big _ (by omega)]; rfl, ?_⟩
    rw [← hrows, ok_call, ok_cons, ok_var (v := .ref r) rfl, ok_cons, ok_k, ok_nil]
    simp only [List.append_assoc, List.nil_append, List.length_append, List.length_set, List.length_nil]
    refine take_okS (d := d + 2) hr (by decide) (by decide) fun c a1 b1 c0 c1 => ?_
    have y0 : ∀ a b tl, (st.set r (feedO a b) ++ (Ob.lst (svs rows) :: tl))[st.length + 0]? = some (.lst (svs rows)) := fun a b tl => by rw [UT_k]; rfl
    show OkT (exTs _ _ [some (.ref r), some (.str text), none, some (.ref (st.length + 0)), some (.int c), none, none, none] ⟨st.set r (feedO a1 b1) ++ [Ob.lst (svs rows)], st.length⟩) _ _
    rw [okt_cons, okt_par, ok_call, ok_cons, ok_var (v := .ref r) rfl, ok_cons, ok_bf, ok_cons, ok_var (v := .ref (st.length + 0)) rfl, ok_nil, ok_lenRef]
    refine ⟨_, y0 _ _ _, ?_⟩
    rw [ok_nil, svs_len]
    refine take_okS (d := d + 2) hr (by omega) (by omega) fun v a2 b2 v0 v1 => ?_
    obtain ⟨at_, rfl⟩ : ∃ n : Nat, v = (n : Int) := ⟨v.toNat, by omega⟩
    rw [ok_call, ok_cons, ok_var (v := .ref r) rfl, ok_cons, ok_op, ok_bf, ok_cons, ok_var (v := .str text) rfl, ok_nil, len, ok_k, ok_addI, ok_nil]
    refine take_okS (d := d + 2) hr (by omega) (by omega) fun v a3 b3 p0 p1 => ?_
    obtain ⟨pl, rfl⟩ : ∃ n : Nat, v = (n : Int) := ⟨v.toNat, by omega⟩
    have hat : at_ < rows.length := by omega
    obtain ⟨row, hrow⟩ : ∃ row, rows[at_]? = some row := ⟨_, List.getElem?_eq_getElem hat⟩
    rw [okt_cons, okt_asg, ok_bf, ok_cons, ok_k, ok_nil, ok_listS', okt_cons, okt_asg, ok_op]
    simp only [List.append_assoc, List.length_append, List.length_set, List.length_cons, List.length_nil]
    show Ok (ev ⟨callN pgA wfA (d + 3), pgA, none, wfA⟩ [some (.ref r), some (.str text), some (.ref (st.length + 1)), some (.ref (st.length + 0)), some (.int c), some (.int (at_ : Int)), some (.int (pl : Int)), none] (.var 2)) ⟨st.set r (feedO a3 b3) ++ [Ob.lst (svs rows), .lst (sgs signA)], st.length⟩ _
    rw [ok_var (v := .ref (st.length + 1)) rfl, ok_bf, ok_cons, ok_k, ok_nil, ok_listS', ok_addL]
    simp only [List.append_assoc, List.length_append, List.length_set, List.length_cons, List.length_nil]
    refine ⟨sgs signA, by rw [UT_k]; rfl, sgs signB, by rw [UT_k]; rfl, by decide, ?_⟩
    obtain ⟨tl, htl⟩ : ∃ tl, tl = [Ob.lst (svs rows), .lst (sgs signA), .lst (sgs signB), .lst (sgs signA ++ sgs signB)] := ⟨_, rfl⟩
    obtain ⟨fr, hfr⟩ : ∃ fr : Fr, fr = [some (.ref r), some (.str text), some (.ref (st.length + 3)), some (.ref (st.length + 0)), some (.int c), some (.int (at_ : Int)), some (.int (pl : Int)), none] := ⟨_, rfl⟩
    show OkT (exTs _ _ [some (.ref r), some (.str text), some (.ref (st.length + 3)), some (.ref (st.length + 0)), some (.int c), some (.int (at_ : Int)), some (.int (pl : Int)), none] ⟨st.set r (feedO a3 b3) ++ [Ob.lst (svs rows), .lst (sgs signA), .lst (sgs signB), .lst (sgs signA ++ sgs signB)], st.length⟩) _ _
    rw [← htl, ← hfr]
    have v0' : fr[0]? = some (some (.ref r)) := by rw [hfr]; rfl
    have v1' : fr[1]? = some (some (.str text)) := by rw [hfr]; rfl
    have v2' : fr[2]? = some (some (.ref (st.length + 3))) := by rw [hfr]; rfl
    have v3' : fr[3]? = some (some (.ref (st.length + 0))) := by rw [hfr]; rfl
    have v4' : fr[4]? = some (some (.int c)) := by rw [hfr]; rfl
    have v5' : fr[5]? = some (some (.int (at_ : Int))) := by rw [hfr]; rfl
    have v6' : fr[6]? = some (some (.int (pl : Int))) := by rw [hfr]; rfl
    have z0 : ∀ a b t2, (st.set r (feedO a b) ++ (tl ++ t2))[st.length + 0]? = some (.lst (svs rows)) := fun a b t2 => by rw [UT_k, htl]; rfl
    have z00 : ∀ a b, (st.set r (feedO a b) ++ tl)[st.length + 0]? = some (.lst (svs rows)) := fun a b => by rw [UT_k, htl]; rfl
    have z3 : tl[3]? = some (.lst (sgs signA ++ sgs signB)) := by rw [htl]; rfl
    have l4 : tl.length = 4 := by rw [htl]; rfl
    have give : ∀ (t : Tx) (a b : Int) (t2 : List Ob), t.length ≤ 6 * text.length + 200 → Ok (leave st.length w (.str t)) ⟨st.set r (feedO a b) ++ t2, st.length⟩ P := fun t a b t2 ht => lvU (Nat.le_refl _) rfl (q t a b ht)
    have pickS : ∀ (a b : Int) (Q : Val → S → Prop), (∀ (c : Nat) a2 b2, Q (.str [c]) ⟨st.set r (feedO a2 b2) ++ tl, st.length⟩) → Ok (ev ⟨callN pgA wfA (d + 3), pgA, none, wfA⟩ fr (E.call F__law_pick (Es.cons (E.var 0) (Es.cons (E.var 2) Es.nil)))) ⟨st.set r (feedO a b) ++ tl, st.length⟩ Q := fun a b Q k => by
      rw [ok_call, ok_cons, ok_var v0', ok_cons, ok_var v2', ok_nil]
      refine pick_okS (d := d + 1) hr z3 (by decide) (by decide) (fun v hv => ?_) fun v a2 b2 hv => ?_
      · rw [sgs_app] at hv
        obtain ⟨x, _, rfl⟩ := List.mem_map.mp hv
        exact .inl rfl
      · rw [sgs_app] at hv
        obtain ⟨x, _, rfl⟩ := List.mem_map.mp hv
        exact k x a2 b2
    have slcLo : ∀ (s : S) (Q : Val → S → Prop), Ok (ev ⟨callN pgA wfA (d + 3), pgA, none, wfA⟩ fr (E.slc (E.var 1) E.no (E.var 6))) s Q ↔ Q (.str (text.take pl)) s := fun s Q => by
      rw [ok_slc, ok_var v1']
      simp only [ok_intM, ok_ret]
      rw [ok_var v6']
      constructor
      · rintro ⟨i, e, k⟩
        cases e
        rw [ok_slcS, cut_take] at k
        exact k
      · intro k
        refine ⟨_, rfl, ?_⟩
        rw [ok_slcS, cut_take]
        exact k
    have slcHi0 : ∀ (s : S) (Q : Val → S → Prop), Ok (ev ⟨callN pgA wfA (d + 3), pgA, none, wfA⟩ fr (E.slc (E.var 1) (E.var 6) E.no)) s Q ↔ Q (.str (text.drop pl)) s := fun s Q => by
      rw [ok_slc, ok_var v1']
      simp only [ok_intM, ok_ret]
      rw [ok_var v6']
      constructor
      · rintro ⟨i, e, k⟩
        cases e
        rw [ok_slcS, cut_drop] at k
        exact k
      · intro k
        refine ⟨_, rfl, ?_⟩
        rw [ok_slcS, cut_drop]
        exact k
    have slcHi : ∀ (s : S) (Q : Val → S → Prop), Ok (ev ⟨callN pgA wfA (d + 3), pgA, none, wfA⟩ fr (E.slc (E.var 1) (E.op Op.add (E.var 6) (E.k (Val.int 1))) E.no)) s Q ↔ Q (.str (text.drop (pl + 1))) s := fun s Q => by
      rw [ok_slc, ok_var v1']
      simp only [ok_intM, ok_ret]
      rw [ok_op, ok_var v6', ok_k, ok_addI]
      have e2 : ((pl : Int) + 1) = ((pl + 1 : Nat) : Int) := by omega
      rw [e2]
      constructor
      · rintro ⟨i, e, k⟩
        cases e
        rw [ok_slcS, cut_drop] at k
        exact k
      · intro k
        refine ⟨_, rfl, ?_⟩
        rw [ok_slcS, cut_drop]
        exact k
    have lt1 : (text.take pl).length ≤ text.length := by rw [List.length_take]; omega
    have ld0 : (text.drop pl).length ≤ text.length := by rw [List.length_drop]; omega
    have ld1 : (text.drop (pl + 1)).length ≤ text.length := by rw [List.length_drop]; omega
    -- 0: a sign put in
    rw [okt_cons, okt_ite, ok_cmp, ok_var v4', ok_k, ok_eqI, ok_truth]
    by_cases k0 : (c == 0) = true
    · rw [if_pos k0, okt_cons, okt_ret, ok_op, ok_op, slcLo]
      refine pickS _ _ _ fun ch a4 b4 => ?_
      rw [ok_addS]
      refine ⟨big _ (by simp; omega), ?_⟩
      rw [slcHi0, ok_addS]
      refine ⟨big _ (by simp; omega), ?_⟩
      exact give _ _ _ _ (by simp; omega)
    rw [if_neg k0, okt_nil, okt_cons, okt_ite, ok_cmp, ok_var v4', ok_k, ok_eqI, ok_truth]
    by_cases k1 : (c == 1) = true
    · rw [if_pos k1, okt_cons, okt_ret, ok_op, slcLo, slcHi, ok_addS]
      refine ⟨big _ (by omega), ?_⟩
      exact give _ _ _ _ (by rw [List.length_append]; omega)
    rw [if_neg k1, okt_nil, okt_cons, okt_ite, ok_cmp, ok_var v4', ok_k, ok_eqI, ok_truth]
    by_cases k2 : (c == 2) = true
    · rw [if_pos k2, okt_cons, okt_ret, ok_op, ok_op, slcLo]
      refine pickS _ _ _ fun ch a4 b4 => ?_
      rw [ok_addS]
      refine ⟨big _ (by simp; omega), ?_⟩
      rw [slcHi, ok_addS]
      refine ⟨big _ (by simp; omega), ?_⟩
      exact give _ _ _ _ (by simp; omega)
    -- rows ahead and behind
    have rowLo : ∀ (a b : Int) (t2 : List Ob) (Q : Val → S → Prop), Q (.ref (st.length + (4 + t2.length))) ⟨st.set r (feedO a b) ++ (tl ++ (t2 ++ [.lst (svs (rows.take at_))])), st.length⟩ → Ok (ev ⟨callN pgA wfA (d + 3), pgA, none, wfA⟩ fr (E.slc (E.var 3) E.no (E.var 5))) ⟨st.set r (feedO a b) ++ (tl ++ t2), st.length⟩ Q := fun a b t2 Q k => by
      rw [ok_slc, ok_var v3']
      simp only [ok_intM, ok_ret]
      rw [ok_var v5']
      refine ⟨_, rfl, ?_⟩
      rw [ok_slcR]
      refine ⟨_, z0 a b t2, ?_⟩
      rw [cut_take, svs_take]
      simp only [List.append_assoc, List.length_append, List.length_set]
      rw [l4]
      exact k
    have rowHi0 : ∀ (a b : Int) (t2 : List Ob) (Q : Val → S → Prop), Q (.ref (st.length + (4 + t2.length))) ⟨st.set r (feedO a b) ++ (tl ++ (t2 ++ [.lst (svs (rows.drop at_))])), st.length⟩ → Ok (ev ⟨callN pgA wfA (d + 3), pgA, none, wfA⟩ fr (E.slc (E.var 3) (E.var 5) E.no)) ⟨st.set r (feedO a b) ++ (tl ++ t2), st.length⟩ Q := fun a b t2 Q k => by
      rw [ok_slc, ok_var v3']
      simp only [ok_intM, ok_ret]
      rw [ok_var v5']
      refine ⟨_, rfl, ?_⟩
      rw [ok_slcR]
      refine ⟨_, z0 a b t2, ?_⟩
      rw [cut_drop, svs_drop]
      simp only [List.append_assoc, List.length_append, List.length_set]
      rw [l4]
      exact k
    have rowHi : ∀ (a b : Int) (t2 : List Ob) (Q : Val → S → Prop), Q (.ref (st.length + (4 + t2.length))) ⟨st.set r (feedO a b) ++ (tl ++ (t2 ++ [.lst (svs (rows.drop (at_ + 1)))])), st.length⟩ → Ok (ev ⟨callN pgA wfA (d + 3), pgA, none, wfA⟩ fr (E.slc (E.var 3) (E.op Op.add (E.var 5) (E.k (Val.int 1))) E.no)) ⟨st.set r (feedO a b) ++ (tl ++ t2), st.length⟩ Q := fun a b t2 Q k => by
      rw [ok_slc, ok_var v3']
      simp only [ok_intM, ok_ret]
      rw [ok_op, ok_var v5', ok_k, ok_addI]
      refine ⟨_, rfl, ?_⟩
      rw [ok_slcR]
      refine ⟨_, z0 a b t2, ?_⟩
      have e2 : ((at_ : Int) + 1) = ((at_ + 1 : Nat) : Int) := by omega
      rw [e2, cut_drop, svs_drop]
      simp only [List.append_assoc, List.length_append, List.length_set]
      rw [l4]
      exact k
    have wt1 : wt (rows.take at_) ≤ text.length + 1 := by rw [← wR]; exact wt_take
    have wt2 : wt (rows.drop at_) ≤ text.length + 1 := by rw [← wR]; exact wt_drop
    have wt3 : wt (rows.drop (at_ + 1)) ≤ text.length + 1 := by rw [← wR]; exact wt_drop
    have atT : ∀ (a b : Int) (t2 : List Ob) (j : Nat), (st.set r (feedO a b) ++ (tl ++ t2))[st.length + (4 + j)]? = t2[j]? := fun a b t2 j => by rw [UT_k, ← l4, stk]
    have big2 : ∀ {xs ys : List Tx}, wt xs ≤ 1400000 → wt ys ≤ 1400000 → decide ((svs xs).length + (svs ys).length ≤ lim) = true := fun {xs ys} h1 h2 => by
      have k1 := wt_len (xs := xs)
      have k2 := wt_len (xs := ys)
      rw [svs_len, svs_len]
      exact big _ (by omega)
    have joinE : ∀ (a b : Int) (t2 : List Ob) (j : Nat) (ss : List Tx), t2[j]? = some (.lst (svs ss)) → wt ss ≤ 6 * text.length + 200 → Ok (bmv .join (.str [10]) [.ref (st.length + (4 + j))]) ⟨st.set r (feedO a b) ++ (tl ++ t2), st.length⟩ (fun v s2 => Ok (leave st.length w v) s2 P) := fun a b t2 j ss e hw => by
      refine ok_joinS (ss := ss) (by show (st.set r (feedO a b) ++ (tl ++ t2))[st.length + (4 + j)]? = _; rw [atT]; exact e) (by unfold lim; omega) ?_
      exact give _ _ _ _ (Nat.le_trans (wt_join rfl) hw)
    have e4 : tl = tl ++ [] := (List.append_nil _).symm
    have one1 : decide ((1 : Nat) ≤ lim) = true := by decide
    have so : ∀ one : Tx, [Val.str one] = svs [one] := fun _ => rfl
    rw [if_neg k2, okt_nil, okt_cons, okt_ite, ok_cmp, ok_var v4', ok_k, ok_eqI, ok_truth]
    by_cases k3 : (c == 3) = true
    · rw [if_pos k3, okt_cons, okt_ret, ok_bm, ok_k, ok_bmChkS]
      refine ⟨rfl, ?_⟩
      rw [ok_cons, ok_op, e4]
      refine rowLo _ _ [] _ ?_
      refine rowHi _ _ _ _ ?_
      rw [ok_addL]
      refine ⟨svs (rows.take at_), by rw [atT]; rfl, svs (rows.drop (at_ + 1)), by rw [atT]; rfl, big2 (by omega) (by omega), ?_⟩
      simp only [List.append_assoc, List.length_append, List.length_set, List.length_cons, List.length_nil]
      rw [l4, svs_app, ok_nil]
      exact joinE _ _ _ (0 + (0 + 1 + (0 + 1))) _ rfl (by rw [wt_app]; omega)
    rw [if_neg k3, okt_nil, okt_cons, okt_ite, ok_cmp, ok_var v4', ok_k, ok_eqI, ok_truth]
    by_cases k4 : (c == 4) = true
    · rw [if_pos k4, okt_cons, okt_ret, ok_bm, ok_k, ok_bmChkS]
      refine ⟨rfl, ?_⟩
      rw [ok_cons, ok_op, ok_op, e4]
      refine rowLo _ _ [] _ ?_
      rw [ok_lst, ok_cons, ok_call, ok_cons, ok_var v0', ok_cons, ok_var v3', ok_nil]
      refine pick_okS (d := d + 1) (k := 0) (xs := svs rows) hr (by rw [htl]; rfl) (by rw [svs_len]; omega) (by rw [svs_len]; omega) (fun v hv => ?_) fun v a4 b4 hv => ?_
      · obtain ⟨x, _, rfl⟩ := mem_svs hv
        exact .inl rfl
      obtain ⟨x, hx, rfl⟩ := mem_svs hv
      have hxw := wt_mem hx
      rw [ok_nil]
      refine ⟨one1, ?_⟩
      rw [ok_alloc, so, ok_addL]
      simp only [List.append_assoc, List.length_append, List.length_set, List.length_cons, List.length_nil]
      rw [l4]
      refine ⟨svs (rows.take at_), by rw [atT]; rfl, svs [x], by rw [atT]; rfl, big2 (by omega) (by rw [wt_one]; omega), ?_⟩
      rw [svs_app]
      refine rowHi0 _ _ _ _ ?_
      rw [ok_addL]
      refine ⟨svs (rows.take at_ ++ [x]), by rw [atT]; rfl, svs (rows.drop at_), by rw [atT]; rfl, big2 (by rw [wt_app, wt_one]; omega) (by omega), ?_⟩
      simp only [List.append_assoc, List.length_append, List.length_set, List.length_cons, List.length_nil]
      rw [l4, svs_app, ok_nil]
      exact joinE _ _ _ 4 _ rfl (by rw [wt_app, wt_app, wt_one]; omega)
    rw [if_neg k4, okt_nil, okt_cons, okt_ite, ok_cmp, ok_var v4', ok_k, ok_eqI, ok_truth]
    by_cases k5 : (c == 5) = true
    · rw [if_pos k5, okt_cons, okt_asg, ok_lst, ok_cons, ok_k, ok_cons, ok_k, ok_cons, ok_k, ok_cons, ok_k, ok_cons, ok_k, ok_cons, ok_k, ok_cons, ok_k, ok_nil]
      refine ⟨by decide, ?_⟩
      rw [ok_alloc, okt_cons, okt_ret, ok_bm, ok_k, ok_bmChkS]
      refine ⟨rfl, ?_⟩
      simp only [List.append_assoc, List.length_append, List.length_set, List.length_cons, List.length_nil]
      rw [l4]
      obtain ⟨fr2, hfr2⟩ : ∃ fr2, fr2 = fr.set 7 (some (.ref (st.length + (4 + 0)))) := ⟨_, rfl⟩
      have u0 : fr2[0]? = some (some (.ref r)) := by rw [hfr2, List.getElem?_set_ne (by decide)]; exact v0'
      have u3 : fr2[3]? = some (some (.ref (st.length + 0))) := by rw [hfr2, List.getElem?_set_ne (by decide)]; exact v3'
      have u7 : fr2[7]? = some (some (.ref (st.length + (4 + 0)))) := by rw [hfr2, hfr]; rfl
      show Ok (evs ⟨callN pgA wfA (d + 3), pgA, none, wfA⟩ (fr.set 7 (some (.ref (st.length + (4 + 0))))) _) ⟨st.set r (feedO a3 b3) ++ (tl ++ [.lst (svs moreW)]), st.length⟩ _
      rw [← hfr2, ok_cons, ok_op, ok_var u3, ok_slc, ok_var u7]
      simp only [ok_intM, ok_ret]
      rw [ok_op, ok_k, ok_call, ok_cons, ok_var u0, ok_cons, ok_k, ok_nil]
      refine take_okS (d := d + 2) hr (by decide) (by decide) fun v a4 b4 w0 w1 => ?_
      obtain ⟨m, rfl⟩ : ∃ n : Nat, v = (n : Int) := ⟨v.toNat, by omega⟩
      rw [ok_addI]
      refine ⟨_, rfl, ?_⟩
      rw [ok_slcR]
      refine ⟨svs moreW, by show (st.set r (feedO a4 b4) ++ (tl ++ _))[st.length + (4 + 0)]? = _; rw [atT]; rfl, ?_⟩
      rw [show (1 + (m : Int)) = ((1 + m : Nat) : Int) by omega, cut_take, svs_take, ok_addL]
      simp only [List.append_assoc, List.length_append, List.length_set, List.length_cons, List.length_nil]
      rw [l4]
      have wm : wt (moreW.take (1 + m)) ≤ 100 := Nat.le_trans wt_take (by decide)
      refine ⟨svs rows, z0 _ _ _, svs (moreW.take (1 + m)), by rw [atT]; rfl, big2 (by omega) (by omega), ?_⟩
      rw [svs_app, ok_nil]
      exact joinE _ _ _ 2 _ rfl (by rw [wt_app]; omega)
    rw [if_neg k5, okt_nil, okt_cons, okt_ret, ok_bm, ok_k, ok_bmChkS]
    refine ⟨rfl, ?_⟩
    rw [ok_cons, ok_op, ok_op, e4]
    refine rowLo _ _ [] _ ?_
    rw [ok_lst, ok_cons, ok_call, ok_cons, ok_var v0', ok_cons, ok_var v3', ok_cons, ok_var v5', ok_nil]
    refine other_row_ok (d := d) (rows := rows) (row := row) (N := text.length) (a := a3) (b := b3) (sto (List.getElem?_set_self hr)) (z0 _ _ _) (by omega) hrow nR lR (by omega) fun t a4 b4 ht => ?_
    rw [UT_set hr, ok_nil]
    refine ⟨one1, ?_⟩
    rw [ok_alloc, so, ok_addL]
    simp only [List.append_assoc, List.length_append, List.length_set, List.length_cons, List.length_nil]
    rw [l4]
    refine ⟨svs (rows.take at_), by rw [atT]; rfl, svs [t], by rw [atT]; rfl, big2 (by omega) (by rw [wt_one]; omega), ?_⟩
    rw [svs_app]
    refine rowHi _ _ _ _ ?_
    rw [ok_addL]
    refine ⟨svs (rows.take at_ ++ [t]), by rw [atT]; rfl, svs (rows.drop (at_ + 1)), by rw [atT]; rfl, big2 (by rw [wt_app, wt_one]; omega) (by omega), ?_⟩
    simp only [List.append_assoc, List.length_append, List.length_set, List.length_cons, List.length_nil]
    rw [l4, svs_app, ok_nil]
    exact joinE _ _ _ 4 _ rfl (by rw [wt_app, wt_app, wt_one]; omega)
  have e0 := start_set h
  rw [← e0] at start
  exact start
end
end PI.MX
end

section
set_option Elab.async false
set_option linter.all false
set_option maxRecDepth 100000
/-! PyF8: the law of texts, the end (k02). -/
namespace PI.MX
theorem firstBad_six {fs : List Tx} : ∀ {rows : List Tx} {i n : Nat}, firstBad fs i rows = some n → i ≤ 6 → n ≤ 6
  | [], i, n, h, _ => by cases h
  | r :: rs, i, n, h, hi => by
    unfold firstBad at h
    split at h
    · rename_i hc
      simp only [Bool.and_eq_true, decide_eq_true_eq] at hc
      exact firstBad_six h (by omega)
    · cases h
      exact hi
theorem bad_text (text : Tx) : ∃ t, ∀ (g : G) (s : S) (Q : Val → S → Prop), Ok (bfv g .repr [badV (badIn text)]) s Q ↔ Q (.str t) s := by
  cases e : badIn text with
  | none => exact ok_reprS (v := .non) (n := 4) rfl (Nat.zero_le _) ⟨by decide +kernel, rfl, rfl⟩ (by decide)
  | some n =>
    have h := firstBad_six (n := n) (show firstBad _ 0 _ = some n from e) (by decide)
    exact ok_reprS (v := .int (n : Int)) (n := 2) rfl (Nat.zero_le _) (shows_int (by omega)) (by decide)
theorem zero_text {g : G} {s : S} {Q : Val → S → Prop} : Ok (bfv g .repr [.int 0]) s Q ↔ Q (.str [48]) s :=
  ok_repr (d := .int 0) rfl (by decide +kernel) (by decide) (by decide)
theorem rngV_at' {n i : Nat} {v : Val} (h : (rngV n)[i]? = some v) : i < n ∧ v = .int (i : Int) := by
  unfold rngV at h
  rw [List.getElem?_map] at h
  obtain ⟨j, hj, rfl⟩ := Option.map_eq_some_iff.mp h
  have hi := (List.getElem?_eq_some_iff.mp hj).1
  rw [List.length_range] at hi
  rw [List.getElem?_range hi] at hj
  cases hj
  exact ⟨hi, rfl⟩
def bnT : Nat → Nat
  | 0 => 1000
  | n + 1 => 6 * bnT n + 200
theorem bnT_le : ∀ n, n ≤ 3 → bnT n ≤ 250000
  | 0, _ => by decide
  | 1, _ => by decide
  | 2, _ => by decide
  | 3, _ => by decide
  | n + 4, h => by omega
theorem ok_dk3 {g : G} {fr : Fr} {s : S} {kvs : List (Tx × Int)} {Q : Val → S → Prop} : Ok (ev g fr (.dk kvs)) s Q ↔ Q (.dct kvs) s := by
  simp only [ev]
  exact ok_ret
theorem law_ok {ns : List Int} (hn : ns.length ≤ 63) : runs pgA wfA 8 F_law ns = true := by
  have key : Ok (callN pgA wfA 8 F_law [.lst (ns.map .int)]) ⟨[], 0⟩ fun v _ => v = .bl true := by
    refine ok_callN (df := d_law) rfl rfl ?_
    simp only [d_law]
    rw [okt_cons, okt_asg, ok_lst, ok_nil]
    refine ⟨rfl, ?_⟩
    rw [ok_alloc, okt_cons, okt_loop, ok_cons, ok_k, ok_nil]
    rw [show (Val.int 45) = Val.int ((45 : Nat) : Int) from rfl, ok_srcR (show 45 < 1000000 by decide)]
    refine ⟨rfl, ?_⟩
    show OkT (forN _ _ (.rng 0 1 45) 45 0 _ _) _ _
    refine okt_forN (xs := rngV 45) (fun n fr z => ∃ (T : List Ob) (q : Nat) (xs : List Val) (x2 : Option Val), fr = [some (.lst (ns.map .int)), some (.ref q), x2, none, none, none, none, none, none] ∧ z = ⟨T, 0⟩ ∧ T[q]? = some (.lst xs)) (fun i fr s _ => src_rng) ?_ ?_ 45 0 _ _ (by rw [rngV_len]) ⟨[.lst []], 0, [], none, rfl, rfl, rfl⟩
    · rintro n v fr z hv ⟨T, q, xs, x2, rfl, rfl, hq⟩
      refine ⟨_, rfl, ?_⟩
      rw [okt_cons, okt_asg, ok_lst, ok_cons, ok_var (v := .ref q) rfl, ok_nil]
      refine ⟨decide_eq_true (by simp; unfold lim; omega), ?_⟩
      rw [ok_alloc, okt_nil]
      exact ⟨_, T.length, [.ref q], _, rfl, rfl, by rw [st0]; rfl⟩
    rintro fr z ⟨T, q, xs, x2, rfl, rfl, hq⟩
    -- values of other kinds
    rw [okt_cons, okt_loop, ok_cons, ok_tup, ok_cons, ok_k, ok_cons, ok_k, ok_cons, ok_k, ok_cons, ok_lst, ok_nil]
    refine ⟨rfl, ?_⟩
    rw [ok_alloc, ok_cons, ok_lst, ok_cons, ok_k, ok_nil]
    refine ⟨by decide, ?_⟩
    rw [ok_alloc, ok_cons, ok_dk3, ok_cons, ok_tup, ok_cons, ok_k, ok_nil]
    refine ⟨by decide, ?_⟩
    rw [ok_cons, ok_var (v := .ref q) rfl, ok_cons, ok_k, ok_nil]
    refine ⟨decide_eq_true (by simp; unfold lim; omega), ?_⟩
    rw [ok_nil, ok_srcT]
    refine ⟨rfl, ?_⟩
    simp only [List.append_assoc, List.length_append, List.length_cons, List.length_nil]
    obtain ⟨T1, hT1⟩ : ∃ T1, T1 = T ++ ([Ob.lst []] ++ [Ob.lst [Val.str [97, 32, 49, 32, 115, 116, 97, 121]]]) := ⟨_, rfl⟩
    obtain ⟨vs, hvs⟩ : ∃ vs, vs = [Val.non, .int 0, .bl true, .ref T.length, .ref (T.length + (0 + 1)), .dct [], .tup [.str [97, 32, 49, 32, 115, 116, 97, 121]], .ref q, .str []] := ⟨_, rfl⟩
    rw [← hT1]
    show OkT (forN _ _ (.items [Val.non, .int 0, .bl true, .ref T.length, .ref (T.length + (0 + 1)), .dct [], .tup [.str [97, 32, 49, 32, 115, 116, 97, 121]], .ref q, .str []]) 9 0 _ _) _ _
    rw [← hvs]
    have q1 : T1[q]? = some (.lst xs) := by rw [hT1]; exact sto hq
    have q2 : T1[T.length]? = some (.lst []) := by rw [hT1, st0]; rfl
    have q3 : T1[T.length + (0 + 1)]? = some (.lst [Val.str [97, 32, 49, 32, 115, 116, 97, 121]]) := by rw [hT1, stk]; rfl
    have kinds : ∀ v ∈ vs, (∀ w, tyIs pgA ⟨T1, w⟩ v .str = some (strB v)) ∧ ∀ t, v = .str t → t = [] := fun v hv => by
      have tr : ∀ {i : Nat} {ys : List Val}, T1[i]? = some (.lst ys) → ∀ w, tyIs pgA ⟨T1, w⟩ (.ref i) .str = some (strB (.ref i)) := fun {i ys} h w => by
        unfold tyIs
        simp only
        rw [h]
        rfl
      rw [hvs] at hv
      simp only [List.mem_cons, List.not_mem_nil, or_false] at hv
      rcases hv with rfl | rfl | rfl | rfl | rfl | rfl | rfl | rfl | rfl
      · exact ⟨fun w => rfl, fun t e => nomatch e⟩
      · exact ⟨fun w => rfl, fun t e => nomatch e⟩
      · exact ⟨fun w => rfl, fun t e => nomatch e⟩
      · exact ⟨tr q2, fun t e => nomatch e⟩
      · exact ⟨tr q3, fun t e => nomatch e⟩
      · exact ⟨fun w => rfl, fun t e => nomatch e⟩
      · exact ⟨fun w => rfl, fun t e => nomatch e⟩
      · exact ⟨tr q1, fun t e => nomatch e⟩
      · exact ⟨fun w => rfl, fun t e => by cases e; rfl⟩
    refine okt_forN (xs := vs) (fun n fr z => ∃ (x3 : Option Val), fr = [some (.lst (ns.map .int)), some (.ref q), x2, x3, none, none, none, none, none] ∧ z = ⟨T1, 0⟩) (fun i fr s _ => src_items) ?_ ?_ 9 0 _ _ (by rw [hvs]; rfl) ⟨none, rfl, rfl⟩
    · rintro n v fr z hv ⟨x3, rfl, rfl⟩
      obtain ⟨h1, h2⟩ := kinds v (List.mem_of_getElem? hv)
      refine ⟨_, rfl, ?_⟩
      rw [okt_cons, okt_ite, ok_cmp, ok_bf, ok_cons, ok_call, ok_cons, ok_var (v := v) rfl, ok_nil]
      refine said_odd (d := 1) h1 h2 ?_
      rw [ok_nil, zero_text, ok_k, ok_ne, ok_eqS, ok_truth, show (!(([48] : Tx) == [48])) = false from rfl, if_neg Bool.false_ne_true, okt_nil, okt_nil]
      exact ⟨_, rfl, rfl⟩
    rintro fr z ⟨x3, rfl, rfl⟩
    -- texts
    obtain ⟨qv, hqv⟩ : ∃ qv, qv = Val.ref q := ⟨_, rfl⟩
    rw [← hqv, okt_cons, okt_loop]
    simp [-okt_cons, ok_var]
    obtain ⟨m, hm, hm5⟩ : ∃ m : Nat, (if 2 < (if (ns.length : Int) < 5 then (ns.length : Int) else 5) then (if (ns.length : Int) < 5 then (ns.length : Int) else 5) else 2) = (m : Int) ∧ m ≤ 5 := by
      refine ⟨(if 2 < (if (ns.length : Int) < 5 then (ns.length : Int) else 5) then (if (ns.length : Int) < 5 then (ns.length : Int) else 5) else 2 : Int).toNat, ?_, ?_⟩ <;> split <;> split <;> omega
    rw [hm, ok_srcR (by omega)]
    refine ⟨rfl, ?_⟩
    show OkT (forN _ _ (.rng 0 1 m) m 0 _ _) _ _
    refine okt_forN (xs := rngV m) (fun i fr s => ∃ (T : List Ob) (x1 x2 x3 x4 x5 x6 x7 x8 : Option Val), fr = [some (.lst (ns.map .int)), x1, x2, x3, x4, x5, x6, x7, x8] ∧ s = ⟨T, 0⟩) (fun i fr s _ => src_rng) ?_ ?_ m 0 _ _ (by rw [rngV_len]; omega) ⟨T1, _, _, _, _, _, _, _, _, rfl, rfl⟩
    · rintro i v fr s hv ⟨T, x1, x2, x3, x4, x5, x6, x7, x8, rfl, rfl⟩
      obtain ⟨hi, rfl⟩ := rngV_at' hv
      refine ⟨_, rfl, ?_⟩
      rw [okt_cons, okt_asg, ok_call, ok_cons, ok_var (v := .lst (ns.map .int)) rfl, ok_cons, ok_var (v := .int (i : Int)) rfl, ok_nil]
      refine feed_ok (d := 6) fun a b => ?_
      obtain ⟨r, hr⟩ : ∃ r, r = T.length := ⟨_, rfl⟩
      obtain ⟨T2, hT2⟩ : ∃ T2, T2 = T ++ [feedO a b] := ⟨_, rfl⟩
      have f1 : T2[r]? = some (feedO a b) := by rw [hT2, hr, st0]; rfl
      rw [← hr, ← hT2, okt_cons, okt_loop, ok_cons, ok_k, ok_nil]
      rw [show (Val.int 6) = Val.int ((6 : Nat) : Int) from rfl, ok_srcR (show 6 < 1000000 by decide)]
      refine ⟨rfl, ?_⟩
      show OkT (forN _ _ (.rng 0 1 6) 6 0 _ _) _ _
      refine okt_forN (xs := rngV 6) (fun j fr z => ∃ (T : List Ob) (a b : Int) (x2 x6 x7 x8 : Option Val), fr = [some (.lst (ns.map .int)), x1, x2, x3, some (.int (i : Int)), some (.ref r), x6, x7, x8] ∧ z = ⟨T, 0⟩ ∧ T[r]? = some (feedO a b)) (fun i fr s _ => src_rng) ?_ ?_ 6 0 _ _ (by rw [rngV_len]) ⟨T2, a, b, _, _, _, _, rfl, rfl, f1⟩
      · rintro j v fr z hv ⟨T, a, b, x2, x6, x7, x8, rfl, rfl, f⟩
        obtain ⟨_, rfl⟩ := rngV_at' hv
        refine ⟨_, rfl, ?_⟩
        rw [okt_cons, okt_asg, ok_call, ok_cons, ok_call, ok_cons, ok_var (v := .ref r) rfl, ok_nil]
        have hrT := (List.getElem?_eq_some_iff.mp f).1
        refine drawn_ok (d := 3) f fun rs a2 b2 hrs => ?_
        have hk := OkRows.of hrs
        rw [ok_nil]
        refine law_text_ok (d := 5) (rs := rs) (by rw [show T.length = (T.set r (feedO a2 b2)).length by rw [List.length_set], st0]; rfl) hk ?_
        obtain ⟨T3, hT3⟩ : ∃ T3, T3 = T.set r (feedO a2 b2) ++ [.lst (rs.map rowV)] := ⟨_, rfl⟩
        have f3 : T3[r]? = some (feedO a2 b2) := by rw [hT3]; exact sto (List.getElem?_set_self hrT)
        rw [← hT3, okt_cons, okt_loop, ok_cons, ok_k, ok_nil]
        rw [show (Val.int 4) = Val.int ((4 : Nat) : Int) from rfl, ok_srcR (show 4 < 1000000 by decide)]
        refine ⟨rfl, ?_⟩
        show OkT (forN _ _ (.rng 0 1 4) 4 0 _ _) _ _
        refine okt_forN (xs := rngV 4) (fun n fr z => ∃ (T : List Ob) (a b : Int) (text : Tx) (x7 x8 : Option Val), fr = [some (.lst (ns.map .int)), x1, some (.int (j : Int)), x3, some (.int (i : Int)), some (.ref r), some (.str text), x7, x8] ∧ z = ⟨T, 0⟩ ∧ T[r]? = some (feedO a b) ∧ text.length ≤ bnT n) (fun i fr s _ => src_rng) ?_ ?_ 4 0 _ _ (by rw [rngV_len]) ⟨T3, a2, b2, textTx rs, _, _, rfl, rfl, f3, textTx_len hk⟩
        · rintro n v fr z hv ⟨T, a, b, text, x7, x8, rfl, rfl, f, hb⟩
          obtain ⟨hn4, rfl⟩ := rngV_at' hv
          refine ⟨_, rfl, ?_⟩
          have hb2 := bnT_le n (by omega)
          have hl : text.length + 2 ≤ lim := by unfold lim; omega
          rw [okt_cons, okt_asg, ok_call, ok_cons, ok_var (v := .str text) rfl, ok_nil]
          refine law_bad_ok (d := 3) hl ?_
          obtain ⟨t, ht⟩ := bad_text text
          rw [okt_cons, okt_ite, ok_cmp, ok_bf, ok_cons, ok_call, ok_cons, ok_var (v := .str text) rfl, ok_nil]
          refine said_text (d := 1) hl ?_
          rw [ok_nil, ht, ok_bf, ok_cons, ok_var (v := badV (badIn text)) rfl, ok_nil, ht, ok_ne, ok_eqS, beq_self_eq_true, ok_truth, Bool.not_true, if_neg Bool.false_ne_true, okt_nil]
          have last : ∀ (T : List Ob), T[r]? = some (feedO a b) → OkT (exTs ⟨callN pgA wfA 7, pgA, none, wfA⟩ (Ts.cons (PI.T.asg (Tg.var 6) (E.call F__law_spoilt (Es.cons (E.var 5) (Es.cons (E.var 6) Es.nil)))) Ts.nil) [some (.lst (ns.map .int)), x1, some (.int (j : Int)), x3, some (.int (i : Int)), some (.ref r), some (.str text), some (.int (n : Int)), some (badV (badIn text))] ⟨T, 0⟩) (fun fr z => ∃ (T : List Ob) (a b : Int) (text : Tx) (x7 x8 : Option Val), fr = [some (.lst (ns.map .int)), x1, some (.int (j : Int)), x3, some (.int (i : Int)), some (.ref r), some (.str text), x7, x8] ∧ z = ⟨T, 0⟩ ∧ T[r]? = some (feedO a b) ∧ text.length ≤ bnT (n + 1)) (fun v s2 => Ok (leave ([] : List Ob).length 0 v) s2 fun v _ => v = .bl true) := fun T f => by
            have hrT := (List.getElem?_eq_some_iff.mp f).1
            rw [okt_cons, okt_asg, ok_call, ok_cons, ok_var (v := .ref r) rfl, ok_cons, ok_var (v := .str text) rfl, ok_nil]
            refine spoilt_text (d := 3) f (by omega) fun t a2 b2 ht => ?_
            rw [okt_nil]
            exact ⟨_, a2, b2, t, _, _, rfl, rfl, List.getElem?_set_self hrT, by show t.length ≤ 6 * bnT n + 200; omega⟩
          rw [okt_cons, okt_ite, ok_and, ok_cmp, ok_var (v := badV (badIn text)) rfl, ok_k, ok_isN, ok_truth]
          cases hbad : badIn text with
          | some k =>
            rw [hbad] at last
            show if (false = true) then _ else _
            rw [if_neg Bool.false_ne_true, ok_truth, if_neg Bool.false_ne_true, okt_nil]
            exact last T f
          | none =>
            rw [hbad] at last
            show if (true = true) then _ else _
            rw [if_pos rfl, ok_cmp, ok_bf, ok_cons, ok_call, ok_cons, ok_var (v := .str text) rfl, ok_nil]
            refine okE_ok (parse_gen (d := 2) hl (fun rs2 _ _ h2 => ?_) fun k hk2 => ?_)
            · rw [ok_nil]
              refine str_site_ok (d := 6) (rs := rs2) (by rw [st0]; rfl) ?_
              rw [h2, ok_var (v := .str text) rfl, ok_ne, ok_eqS, beq_self_eq_true, ok_truth, Bool.not_true, if_neg Bool.false_ne_true, okt_nil]
              exact last _ (sto f)
            · rw [hbad] at hk2
              cases hk2
        · rintro fr z ⟨T, a, b, text, x7, x8, rfl, rfl, f, _⟩
          rw [okt_nil]
          exact ⟨T, a, b, _, _, _, _, rfl, rfl, f⟩
      · rintro fr z ⟨T, a, b, x2, x6, x7, x8, rfl, rfl, f⟩
        rw [okt_nil]
        exact ⟨T, _, _, _, _, _, _, _, _, rfl, rfl⟩
    · rintro fr s ⟨T, x1, x2, x3, x4, x5, x6, x7, x8, rfl, rfl⟩
      rw [okt_cons, okt_ret, ok_k]
      exact (ok_leave (Nat.le_refl _) rfl).mpr rfl
  unfold runs
  rw [Ok_def] at key
  split at key
  · rename_i v s e
    rw [e, key]
  · exact key.elim
end PI.MX
end

section
set_option Elab.async false
set_option linter.all false
set_option maxRecDepth 100000
/-! PyS0: what the interpreter's values stand for in the heap; how readings follow from runs. -/
namespace PI
open PySem PySem.Spec PyProof.Rows L2 TL
/-! ### the relation -/
def toS (x : Tx) : Str := ⟨x.toArray⟩
theorem toS_tl (x : Str) : toS (tl x) = x := ext_tl rfl
theorem tl_toS (x : Tx) : tl (toS x) = x := rfl
theorem toS_inj {x y : Tx} (h : toS x = toS y) : x = y := by
  have : tl (toS x) = tl (toS y) := by rw [h]
  exact this
def okT (x : Tx) : Bool := x.all (· < 1114112) && decide (x.length ≤ lim)
/-- a tuple of ours: its object is known and has no dict of its own -/
def TupK (H : Hp) (a : Addr) (vs : List V) : Prop := ∃ o : Obj, o.dict = none ∧ H a = some (.frz o (.tup vs))
theorem TupK.sq {K : PySem.W.Frag} {H : Hp} {a : Addr} {vs : List V} (h : TupK H a vs) : SqT K H a vs := let ⟨o, _, e⟩ := h; .inl (.inr ⟨o, e⟩)
mutual
def VR (K : PySem.W.Frag) (ca : Nat → Addr) (rho : List Addr) (H : Hp) : Val → V → Prop
  | .non, v => v = .non
  | .bl b, v => v = .bl b
  | .int i, v => v = .int i
  | .str s, v => v = .str (toS s) ∧ okT s = true
  | .tup xs, v => ∃ a vs, v = .ref a ∧ TupK H a vs ∧ VRs K ca rho H xs vs
  | .lst xs, v => ∃ a vs, v = .ref a ∧ ((∃ o, H a = some (.frz o (.lst vs))) ∨ (∃ (o : Obj) (its : Array Value) (n : Nat), K.lookup a = some o ∧ o.cls = .type "list" ∧ o.dict = none ∧ o.data = .seq its n ∧ its.size ≤ sizeLine ∧ Vals vs its.toList)) ∧ VRs K ca rho H xs vs
  | .ref i, v => ∃ a, v = .ref a ∧ rho[i]? = some a
  | .dct kvs, v => ∃ a o, v = .ref a ∧ H a = some (.frz o (.dK (kvs.map fun p => (.inr (toS p.1), .int p.2))))
def VRs (K : PySem.W.Frag) (ca : Nat → Addr) (rho : List Addr) (H : Hp) : List Val → List V → Prop
  | [], vs => vs = []
  | x :: r, vs => ∃ v q, vs = v :: q ∧ VR K ca rho H x v ∧ VRs K ca rho H r q
end
def FR (K : PySem.W.Frag) (ca : Nat → Addr) (rho : List Addr) (H : Hp) : List (Str × Val) → List (Str × V) → Prop
  | [], gs => gs = []
  | (f, x) :: r, gs => ∃ v q, gs = (f, v) :: q ∧ VR K ca rho H x v ∧ FR K ca rho H r q
def OR (K : PySem.W.Frag) (ca : Nat → Addr) (rho : List Addr) (H : Hp) : Ob → Addr → Prop
  | .lst xs, a => ∃ vs, H a = some (.lst vs) ∧ VRs K ca rho H xs vs
  | .ins c fs, a => ∃ dx gs, H a = some (.ins (ca c) dx gs) ∧ FR K ca rho H fs gs ∧ Cls K (ca c) ∧ ∀ p ∈ fs, NoAttr K (ca c) p.1
structure RelS (K : PySem.W.Frag) (ca : Nat → Addr) (rho : List Addr) (s : S) (H : Hp) : Prop where
  len : rho.length = s.st.length
  nd : rho.Nodup
  at_ : ∀ (i : Nat) (o : Ob) (a : Addr), s.st[i]? = some o → rho[i]? = some a → OR K ca rho H o a
/-- what stood stays -/
structure Ext (rho : List Addr) (H : Hp) (rho' : List Addr) (H' : Hp) : Prop where
  pre : ∃ d, rho' = rho ++ d
  fr : ∀ a o, H a = some o → a ∉ rho → H' a = some o ∧ a ∉ rho'
section
variable {K : PySem.W.Frag} {ca : Nat → Addr} {rho rho1 rho2 : List Addr} {H H1 H2 : Hp} {s s1 : S}
theorem Ext.rfl' : Ext rho H rho H := ⟨⟨[], by simp⟩, fun a o h n => ⟨h, n⟩⟩
theorem Ext.trans (x : Ext rho H rho1 H1) (y : Ext rho1 H1 rho2 H2) : Ext rho H rho2 H2 := by
  obtain ⟨d, e⟩ := x.pre
  obtain ⟨d2, e2⟩ := y.pre
  refine ⟨⟨d ++ d2, by rw [e2, e, List.append_assoc]⟩, fun a o h n => ?_⟩
  obtain ⟨h1, n1⟩ := x.fr a o h n
  exact y.fr a o h1 n1
theorem Ext.get (x : Ext rho H rho1 H1) {i : Nat} {a : Addr} (h : rho[i]? = some a) : rho1[i]? = some a := by
  obtain ⟨d, e⟩ := x.pre
  rw [e]
  obtain ⟨hi, _⟩ := List.getElem?_eq_some_iff.mp h
  rw [List.getElem?_append_left hi]
  exact h
/-- what an object of ours is -/
theorem OR.is {o : Ob} {a : Addr} (h : OR K ca rho H o a) : (∃ vs, H a = some (.lst vs)) ∨ ∃ C dx gs, H a = some (.ins C dx gs) := by
  cases o with
  | lst xs =>
    obtain ⟨vs, e, _⟩ := h
    exact .inl ⟨vs, e⟩
  | ins c fs =>
    obtain ⟨dx, gs, e, _⟩ := h
    exact .inr ⟨_, dx, gs, e⟩
theorem RelS.mem (R : RelS K ca rho s H) {a : Addr} (h : a ∈ rho) : ∃ (i : Nat) (o : Ob), s.st[i]? = some o ∧ rho[i]? = some a ∧ OR K ca rho H o a := by
  obtain ⟨i, hi⟩ := List.getElem?_of_mem h
  obtain ⟨hl, _⟩ := List.getElem?_eq_some_iff.mp hi
  have hs : i < s.st.length := by rw [← R.len]; exact hl
  exact ⟨i, s.st[i], List.getElem?_eq_getElem hs, hi, R.at_ i _ a (List.getElem?_eq_getElem hs) hi⟩
theorem RelS.is (R : RelS K ca rho s H) {a : Addr} (h : a ∈ rho) : (∃ vs, H a = some (.lst vs)) ∨ ∃ C dx gs, H a = some (.ins C dx gs) := by
  obtain ⟨i, o, _, _, q⟩ := R.mem h
  exact q.is
theorem RelS.nothing (R : RelS K ca rho s H) {a : Addr} (h : H a = none) : a ∉ rho := fun m => by
  rcases R.is m with ⟨vs, e⟩ | ⟨C, dx, gs, e⟩ <;> (rw [h] at e; cases e)
theorem RelS.not (R : RelS K ca rho s H) {a : Addr} {o : HO} (h : H a = some o) (h1 : ∀ vs, o ≠ .lst vs) (h2 : ∀ C dx gs, o ≠ .ins C dx gs) : a ∉ rho := fun m => by
  rcases R.is m with ⟨vs, e⟩ | ⟨C, dx, gs, e⟩
  · rw [h] at e; exact h1 _ (Option.some.inj e)
  · rw [h] at e; exact h2 _ _ _ (Option.some.inj e)
theorem TupK.mono {a : Addr} {vs : List V} (R : RelS K ca rho s H) (x : Ext rho H rho1 H1) (h : TupK H a vs) : TupK H1 a vs := by
  obtain ⟨o, e, h⟩ := h
  exact ⟨o, e, (x.fr a _ h (R.not h (by intro _ q; cases q) (by intro _ _ _ q; cases q))).1⟩
mutual
theorem VR.mono (R : RelS K ca rho s H) (x : Ext rho H rho1 H1) : ∀ {v : Val} {u : V}, VR K ca rho H v u → VR K ca rho1 H1 v u
  | .non, _, h => by simpa [VR] using h
  | .bl _, _, h => by simpa [VR] using h
  | .int _, _, h => by simpa [VR] using h
  | .str _, _, h => by simpa [VR] using h
  | .tup xs, _, h => by
    simp only [VR] at h ⊢
    obtain ⟨a, vs, e, q, r⟩ := h
    exact ⟨a, vs, e, TupK.mono R x q, VRs.mono R x r⟩
  | .lst xs, _, h => by
    simp only [VR] at h ⊢
    obtain ⟨a, vs, e, q, r⟩ := h
    refine ⟨a, vs, e, ?_, VRs.mono R x r⟩
    rcases q with ⟨o, q⟩ | q
    · exact .inl ⟨o, (x.fr a _ q (R.not q (by intro _ z; cases z) (by intro _ _ _ z; cases z))).1⟩
    · exact .inr q
  | .ref i, _, h => by
    simp only [VR] at h ⊢
    obtain ⟨a, e, q⟩ := h
    exact ⟨a, e, x.get q⟩
  | .dct kvs, _, h => by
    simp only [VR] at h ⊢
    obtain ⟨a, o, e, q⟩ := h
    exact ⟨a, o, e, (x.fr a _ q (R.not q (by intro _ z; cases z) (by intro _ _ _ z; cases z))).1⟩
theorem VRs.mono (R : RelS K ca rho s H) (x : Ext rho H rho1 H1) : ∀ {v : List Val} {u : List V}, VRs K ca rho H v u → VRs K ca rho1 H1 v u
  | [], _, h => by simpa [VRs] using h
  | y :: r, _, h => by
    simp only [VRs] at h ⊢
    obtain ⟨v, q, e, h1, h2⟩ := h
    exact ⟨v, q, e, VR.mono R x h1, VRs.mono R x h2⟩
end
theorem FR.mono (R : RelS K ca rho s H) (x : Ext rho H rho1 H1) : ∀ {fs : List (Str × Val)} {gs : List (Str × V)}, FR K ca rho H fs gs → FR K ca rho1 H1 fs gs
  | [], _, h => h
  | (f, v) :: r, _, h => by
    obtain ⟨v, q, e, h1, h2⟩ := h
    exact ⟨v, q, e, h1.mono R x, FR.mono R x h2⟩
theorem VRs.len : ∀ {xs : List Val} {vs : List V}, VRs K ca rho H xs vs → xs.length = vs.length
  | [], _, h => by simp only [VRs] at h; rw [h]; rfl
  | x :: r, _, h => by
    simp only [VRs] at h
    obtain ⟨v, q, e, _, h2⟩ := h
    rw [e]
    simp [VRs.len h2]
theorem VRs.get : ∀ {xs : List Val} {vs : List V} {i : Nat} {x : Val}, VRs K ca rho H xs vs → xs[i]? = some x → ∃ v, vs[i]? = some v ∧ VR K ca rho H x v
  | [], _, _, _, _, e => by simp at e
  | y :: r, _, 0, x, h, e => by
    simp only [VRs] at h
    obtain ⟨v, q, rfl, h1, h2⟩ := h
    simp at e
    subst e
    exact ⟨v, rfl, h1⟩
  | y :: r, _, i + 1, x, h, e => by
    simp only [VRs] at h
    obtain ⟨v, q, rfl, h1, h2⟩ := h
    obtain ⟨u, g1, g2⟩ := VRs.get (i := i) h2 (by simpa using e)
    exact ⟨u, by simpa using g1, g2⟩
theorem VRs.append : ∀ {xs ys : List Val} {vs ws : List V}, VRs K ca rho H xs vs → VRs K ca rho H ys ws → VRs K ca rho H (xs ++ ys) (vs ++ ws)
  | [], _, _, _, h, g => by simp only [VRs] at h; subst h; simpa using g
  | x :: r, _, _, _, h, g => by
    simp only [VRs] at h
    obtain ⟨v, q, rfl, h1, h2⟩ := h
    simp only [List.cons_append, VRs]
    exact ⟨v, _, rfl, h1, VRs.append h2 g⟩
theorem VRs.drop : ∀ {xs : List Val} {vs : List V} (n : Nat), VRs K ca rho H xs vs → VRs K ca rho H (xs.drop n) (vs.drop n)
  | _, _, 0, h => by simpa using h
  | [], _, n + 1, h => by simp only [VRs] at h; subst h; simp [VRs]
  | x :: r, _, n + 1, h => by
    simp only [VRs] at h
    obtain ⟨v, q, rfl, h1, h2⟩ := h
    simpa using VRs.drop n h2
theorem VRs.take : ∀ {xs : List Val} {vs : List V} (n : Nat), VRs K ca rho H xs vs → VRs K ca rho H (xs.take n) (vs.take n)
  | _, _, 0, h => by simp [VRs]
  | [], _, n + 1, h => by simp only [VRs] at h; subst h; simp [VRs]
  | x :: r, _, n + 1, h => by
    simp only [VRs] at h
    obtain ⟨v, q, rfl, h1, h2⟩ := h
    simp only [List.take_succ_cons, VRs]
    exact ⟨v, _, rfl, h1, VRs.take n h2⟩
theorem VRs.set : ∀ {xs : List Val} {vs : List V} (i : Nat) {x : Val} {v : V}, VRs K ca rho H xs vs → VR K ca rho H x v → VRs K ca rho H (xs.set i x) (vs.set i v)
  | [], _, _, _, _, h, _ => by simp only [VRs] at h; subst h; simp [VRs]
  | y :: r, _, 0, _, _, h, g => by
    simp only [VRs] at h
    obtain ⟨v, q, rfl, h1, h2⟩ := h
    simp only [List.set_cons_zero, VRs]
    exact ⟨_, _, rfl, g, h2⟩
  | y :: r, _, i + 1, _, _, h, g => by
    simp only [VRs] at h
    obtain ⟨v, q, rfl, h1, h2⟩ := h
    simp only [List.set_cons_succ, VRs]
    exact ⟨_, _, rfl, h1, VRs.set i h2 g⟩
theorem VRs.one {x : Val} {v : V} (h : VR K ca rho H x v) : VRs K ca rho H [x] [v] := by
  simp only [VRs]
  exact ⟨v, [], rfl, h, rfl⟩
theorem VRs.reverse : ∀ {xs : List Val} {vs : List V}, VRs K ca rho H xs vs → VRs K ca rho H xs.reverse vs.reverse
  | [], _, h => by simp only [VRs] at h; subst h; simp [VRs]
  | x :: r, _, h => by
    simp only [VRs] at h
    obtain ⟨v, q, rfl, h1, h2⟩ := h
    rw [List.reverse_cons, List.reverse_cons]
    exact VRs.append (VRs.reverse h2) (VRs.one h1)
theorem VRs.dropLast {xs : List Val} {vs : List V} (h : VRs K ca rho H xs vs) : VRs K ca rho H xs.dropLast vs.dropLast := by
  rw [List.dropLast_eq_take, List.dropLast_eq_take, h.len]
  exact h.take _
theorem VRs.eraseIdx : ∀ {xs : List Val} {vs : List V} (i : Nat), VRs K ca rho H xs vs → VRs K ca rho H (xs.eraseIdx i) (vs.eraseIdx i)
  | [], _, _, h => by simp only [VRs] at h; subst h; simp [VRs]
  | y :: r, _, 0, h => by
    simp only [VRs] at h
    obtain ⟨v, q, rfl, h1, h2⟩ := h
    simpa using h2
  | y :: r, _, i + 1, h => by
    simp only [VRs] at h
    obtain ⟨v, q, rfl, h1, h2⟩ := h
    simp only [List.eraseIdx_cons_succ, VRs]
    exact ⟨_, _, rfl, h1, VRs.eraseIdx i h2⟩
theorem VRs.nil_iff {vs : List V} : VRs K ca rho H [] vs ↔ vs = [] := by simp [VRs]
theorem VRs.cons_iff {x : Val} {r : List Val} {vs : List V} : VRs K ca rho H (x :: r) vs ↔ ∃ v q, vs = v :: q ∧ VR K ca rho H x v ∧ VRs K ca rho H r q := by simp [VRs]
/-! ### a new object, an object changed -/
theorem nothing_upd {p : Addr} {o : HO} (R : RelS K ca rho s H) (h : H p = none) : Ext rho H rho (upd H p o) :=
  ⟨⟨[], by simp⟩, fun a u e n => ⟨by rw [upd_ne (ne_of_none e h)]; exact e, n⟩⟩
theorem OR.keep {o : Ob} {a : Addr} (R : RelS K ca rho s H) (x : Ext rho H rho1 H1) (h : OR K ca rho H o a) (k : H1 a = H a) : OR K ca rho1 H1 o a := by
  cases o with
  | lst xs =>
    obtain ⟨vs, e, r⟩ := h
    exact ⟨vs, by rw [k]; exact e, r.mono R x⟩
  | ins c fs =>
    obtain ⟨dx, gs, e, r, n⟩ := h
    exact ⟨dx, gs, by rw [k]; exact e, r.mono R x, n⟩
/-- a thing that is none of ours is laid -/
theorem RelS.other {p : Addr} {o : HO} (R : RelS K ca rho s H) (h : H p = none) : RelS K ca rho s (upd H p o) :=
  ⟨R.len, R.nd, fun i ob a e1 e2 => (R.at_ i ob a e1 e2).keep R (nothing_upd R h) (upd_ne (fun z => R.nothing h (z ▸ List.mem_of_getElem? e2)))⟩
theorem ext_new {p : Addr} {o : HO} (R : RelS K ca rho s H) (h : H p = none) : Ext rho H (rho ++ [p]) (upd H p o) :=
  ⟨⟨[p], rfl⟩, fun a u e n => ⟨by rw [upd_ne (ne_of_none e h)]; exact e, by
    intro m
    rcases List.mem_append.mp m with m | m
    · exact n m
    · rw [List.mem_singleton] at m
      rw [m, h] at e
      cases e⟩⟩
theorem RelS.new {p : Addr} {o : HO} {ob : Ob} (R : RelS K ca rho s H) (h : H p = none) (n : OR K ca (rho ++ [p]) (upd H p o) ob p) : RelS K ca (rho ++ [p]) ⟨s.st ++ [ob], s.w⟩ (upd H p o) := by
  refine ⟨by simp [R.len], ?_, fun i u a e1 e2 => ?_⟩
  · rw [List.nodup_append]
    refine ⟨R.nd, by simp, fun a h1 b h2 => ?_⟩
    rw [List.mem_singleton] at h2
    rw [h2]
    exact fun z => R.nothing h (z ▸ h1)
  · by_cases hi : i < s.st.length
    · have e1' : s.st[i]? = some u := by rw [← e1]; exact (List.getElem?_append_left hi).symm
      have e2' : rho[i]? = some a := by rw [← e2]; exact (List.getElem?_append_left (by rw [R.len]; exact hi)).symm
      exact (R.at_ i u a e1' e2').keep R (ext_new R h) (upd_ne (fun z => R.nothing h (z ▸ List.mem_of_getElem? e2')))
    · have hi2 : i = s.st.length := by
        obtain ⟨q, _⟩ := List.getElem?_eq_some_iff.mp e1
        simp at q
        omega
      subst hi2
      have e1' : u = ob := by
        have z : (s.st ++ [ob])[s.st.length]? = some ob := by simp
        have e3 : (s.st ++ [ob])[s.st.length]? = some u := e1
        rw [z] at e3
        exact (Option.some.inj e3).symm
      have e2' : a = p := by
        rw [← R.len] at e2
        simp at e2
        exact e2.symm
      subst e1' e2'
      exact n
theorem ext_put {p : Addr} {o : HO} (hp : p ∈ rho) : Ext rho H rho (upd H p o) :=
  ⟨⟨[], by simp⟩, fun a u e n => ⟨by rw [upd_ne (fun (z : a = p) => n (z ▸ hp))]; exact e, n⟩⟩
theorem RelS.put {p : Addr} {o : HO} {ob : Ob} {i w : Nat} (R : RelS K ca rho s H) (hi : rho[i]? = some p) (n : OR K ca rho (upd H p o) ob p) : RelS K ca rho ⟨s.st.set i ob, w⟩ (upd H p o) := by
  refine ⟨by simp [R.len], R.nd, fun j u a e1 e2 => ?_⟩
  have e1 : (s.st.set i ob)[j]? = some u := e1
  by_cases hj : i = j
  · subst hj
    rw [hi] at e2
    have ea : p = a := Option.some.inj e2
    subst ea
    obtain ⟨q, _⟩ := List.getElem?_eq_some_iff.mp e1
    rw [List.getElem?_set_self (by simpa using q)] at e1
    rw [← Option.some.inj e1]
    exact n
  · rw [List.getElem?_set_ne hj] at e1
    have ne : a ≠ p := fun z => by
      subst z
      exact hj (nodup_getElem R.nd hi e2)
    exact (R.at_ j u a e1 e2).keep R (ext_put (List.mem_of_getElem? hi)) (upd_ne ne)
where
  nodup_getElem {l : List Addr} (h : l.Nodup) {i j : Nat} {a : Addr} (h1 : l[i]? = some a) (h2 : l[j]? = some a) : i = j := by
    obtain ⟨q1, e1⟩ := List.getElem?_eq_some_iff.mp h1
    obtain ⟨q2, e2⟩ := List.getElem?_eq_some_iff.mp h2
    exact (List.getElem_inj h).mp (e1.trans e2.symm)
end
/-! ### runs and readings -/
/-- the class of errors has one attribute at most; its name -/
abbrev Xn := Nat → Option Str
def XR (K : PySem.W.Frag) (ca : Nat → Addr) (xn : Xn) (rho : List Addr) (H : Hp) (x : Ex) (cls : Value) (d : Option Addr) : Prop :=
  cls = .ref (ca x.cls) ∧ match x.arg with
    | none => True
    | some v => ∃ f dd u, xn x.cls = some f ∧ d = some dd ∧ H dd = some (.xd [(f, u)]) ∧ VR K ca rho H v u
section
variable (K : PySem.W.Frag) (ca : Nat → Addr) (xn : Xn)
def Post {α : Type} (r : R α) (rho : List Addr) (H : Hp) (Q : α → List Addr → S → Hp → Prop) (E : Value → Option Addr → Hp → Prop) : Prop := match r with
  | .ok a s => ∀ rho' H', Ext rho H rho' H' → RelS K ca rho' s H' → Q a rho' s H'
  | .ex x s => ∀ rho' H' cls d, Ext rho H rho' H' → RelS K ca rho' s H' → XR K ca xn rho' H' x cls d → E cls d H'
  | .bad => False
end
section
variable {K : PySem.W.Frag} {ca : Nat → Addr} {xn : Xn} {rho rho1 : List Addr} {H H1 : Hp} {s : S} {α β : Type} {E : Value → Option Addr → Hp → Prop}
theorem Post.ext {r : R α} {Q : α → List Addr → S → Hp → Prop} (h : Post K ca xn r rho H Q E) (x : Ext rho H rho1 H1) : Post K ca xn r rho1 H1 Q E := by
  cases r with
  | ok a s => exact fun rho' H' x' R => h rho' H' (x.trans x') R
  | ex e s => exact fun rho' H' cls d x' R => h rho' H' cls d (x.trans x') R
  | bad => exact h
theorem Post.imp {r : R α} {Q Q' : α → List Addr → S → Hp → Prop} (h : Post K ca xn r rho H Q E) (k : ∀ a rho' s' H', Ext rho H rho' H' → RelS K ca rho' s' H' → Q a rho' s' H' → Q' a rho' s' H') : Post K ca xn r rho H Q' E := by
  cases r with
  | ok a s => exact fun rho' H' x' R => k a rho' s H' x' R (h rho' H' x' R)
  | ex e s => exact h
  | bad => exact h
theorem Post.bnd {m : M α} {f : α → M β} {Q : β → List Addr → S → Hp → Prop} (h : Post K ca xn (bnd m f s) rho H Q E) :
    Post K ca xn (m s) rho H (fun a rho1 s1 H1 => Post K ca xn (f a s1) rho1 H1 Q E) E := by
  unfold PI.bnd at h
  cases e : m s with
  | ok a s1 =>
    rw [e] at h
    exact fun rho1 H1 x _ => h.ext x
  | ex x s1 =>
    rw [e] at h
    exact h
  | bad =>
    rw [e] at h
    exact h
theorem Post.ret {a : α} {Q : α → List Addr → S → Hp → Prop} (R : RelS K ca rho s H) (h : Post K ca xn (ret a s) rho H Q E) : Q a rho s H := h rho H Ext.rfl' R
theorem Post.opt {o : Option α} {Q : α → List Addr → S → Hp → Prop} (R : RelS K ca rho s H) (h : Post K ca xn (PI.opt o s) rho H Q E) : ∃ a, o = some a ∧ Q a rho s H := by
  cases o with
  | none => exact h.elim
  | some a => exact ⟨a, rfl, h.ret R⟩
theorem Post.chk {c : Bool} {m : M α} {Q : α → List Addr → S → Hp → Prop} (h : Post K ca xn (PI.chk c m s) rho H Q E) : c = true ∧ Post K ca xn (m s) rho H Q E := by
  cases c with
  | true => exact ⟨rfl, h⟩
  | false => exact h.elim
theorem Post.look {i : Nat} {a : Addr} {Q : Ob → List Addr → S → Hp → Prop} (R : RelS K ca rho s H) (hi : rho[i]? = some a) (h : Post K ca xn (look i s) rho H Q E) : ∃ o, OR K ca rho H o a ∧ s.st[i]? = some o ∧ Q o rho s H := by
  unfold PI.look at h
  cases e : s.st[i]? with
  | none => rw [e] at h; exact h.elim
  | some o =>
    rw [e] at h
    exact ⟨o, R.at_ i o a e hi, rfl, h rho H Ext.rfl' R⟩
/-- a list that is looked at -/
theorem Post.lookL {i : Nat} {a : Addr} {Q : β → List Addr → S → Hp → Prop} {f : List Val → M β} (R : RelS K ca rho s H) (hi : rho[i]? = some a) (h : Post K ca xn (PI.bnd (PI.look i) (fun o => PI.bnd (PI.opt (lstOf o)) f) s) rho H Q E) :
    ∃ xs vs, s.st[i]? = some (.lst xs) ∧ H a = some (.lst vs) ∧ VRs K ca rho H xs vs ∧ Post K ca xn (f xs s) rho H Q E := by
  obtain ⟨o, q1, q2, h⟩ := Post.look R hi h.bnd
  obtain ⟨xs, e, h⟩ := Post.opt R h.bnd
  cases o with
  | ins c fs => cases e
  | lst ys =>
    cases e
    obtain ⟨vs, e1, e2⟩ := q1
    exact ⟨_, vs, q2, e1, e2, h⟩
theorem Post.alloc {xs : List Val} {zs : List V} {Q : Val → List Addr → S → Hp → Prop} (R : RelS K ca rho s H) (r : VRs K ca rho H xs zs) (h : Post K ca xn (PI.alloc (.lst xs) s) rho H Q E) {p : Addr} (hp : H p = none) :
    ∃ s', RelS K ca (rho ++ [p]) s' (upd H p (.lst zs)) ∧ VR K ca (rho ++ [p]) (upd H p (.lst zs)) (.ref s.st.length) (.ref p) ∧ Q (.ref s.st.length) (rho ++ [p]) s' (upd H p (.lst zs)) := by
  have R' : RelS K ca (rho ++ [p]) ⟨s.st ++ [.lst xs], s.w⟩ (upd H p (.lst zs)) := R.new hp ⟨zs, upd_same, r.mono R (ext_new R hp)⟩
  refine ⟨_, R', ?_, h _ _ (ext_new R hp) R'⟩
  simp only [VR]
  exact ⟨p, rfl, by rw [← R.len]; simp⟩
theorem Post.putL {i : Nat} {a : Addr} {xs : List Val} {zs : List V} {Q : Unit → List Addr → S → Hp → Prop} (R : RelS K ca rho s H) (hi : rho[i]? = some a) (r : VRs K ca rho H xs zs) (h : Post K ca xn (PI.put i (.lst xs) s) rho H Q E) :
    ∃ s', RelS K ca rho s' (upd H a (.lst zs)) ∧ Ext rho H rho (upd H a (.lst zs)) ∧ Q () rho s' (upd H a (.lst zs)) := by
  have x : Ext rho H rho (upd H a (.lst zs)) := ext_put (List.mem_of_getElem? hi)
  have R' : RelS K ca rho ⟨s.st.set i (.lst xs), if obRef (.lst xs) then min s.w i else s.w⟩ (upd H a (.lst zs)) := R.put hi ⟨zs, upd_same, r.mono R x⟩
  exact ⟨_, R', x, h _ _ x R'⟩
end
end PI
end

section
set_option Elab.async false
set_option linter.all false
set_option maxRecDepth 100000
/-! PyS1: operators, indices, slices. -/
namespace PI
open PySem PySem.Spec PyProof.Rows L2 TL
theorem lim_eq : lim = sizeLine := by rw [sizeLine_eq]; rfl
section
variable {K : PySem.W.Frag} {ca : Nat → Addr} {xn : Xn} {rho : List Addr} {H : Hp} {s : S} {Q : VK} {E : Value → Option Addr → Hp → Prop} {x y : Val} {u v : V}
/-- what is wanted of a run that gives a value -/
abbrev PV (K : PySem.W.Frag) (ca : Nat → Addr) (xn : Xn) (r : R Val) (rho : List Addr) (H : Hp) (Q : VK) (E : Value → Option Addr → Hp → Prop) : Prop :=
  Post K ca xn r rho H (fun a rho' _ H' => ∀ w, VR K ca rho' H' a w → Q w H') E
theorem PV.int {i : Int} (R : RelS K ca rho s H) (h : PV K ca xn (PI.ret (.int i) s) rho H Q E) : Q (.int i) H := h.ret R _ (by simp [VR])
theorem PV.bl {i : Bool} (R : RelS K ca rho s H) (h : PV K ca xn (PI.ret (.bl i) s) rho H Q E) : Q (.bl i) H := h.ret R _ (by simp [VR])
theorem PV.non (R : RelS K ca rho s H) (h : PV K ca xn (PI.ret .non s) rho H Q E) : Q .non H := h.ret R _ (by simp [VR])
theorem PV.str {x : Tx} (R : RelS K ca rho s H) (h : PV K ca xn (PI.ret (.str x) s) rho H Q E) (k : okT x = true) : Q (.str (toS x)) H := h.ret R _ (by simp [VR, k])
/-- a new tuple -/
theorem PV.tup {xs : List Val} {zs : List V} (R : RelS K ca rho s H) (r : VRs K ca rho H xs zs) (h : PV K ca xn (PI.ret (.tup xs) s) rho H Q E) {p : Addr} {o : Obj} (ho : o.dict = none) (hp : H p = none) : Q (.ref p) (upd H p (.frz o (.tup zs))) := by
  have x := nothing_upd (o := .frz o (.tup zs)) R hp
  have R' := R.other (o := .frz o (.tup zs)) hp
  refine h rho _ x R' _ ?_
  simp only [VR]
  exact ⟨p, zs, rfl, ⟨o, ho, upd_same⟩, r.mono R x⟩
theorem PV.lst {xs : List Val} {zs : List V} (R : RelS K ca rho s H) (r : VRs K ca rho H xs zs) (h : PV K ca xn (PI.alloc (.lst xs) s) rho H Q E) {p : Addr} (hp : H p = none) : Q (.ref p) (upd H p (.lst zs)) := by
  obtain ⟨s', _, q, h⟩ := Post.alloc R r h hp
  exact h _ q
theorem okT_iff {x : Tx} : okT x = true ↔ (∀ c ∈ x, c < 1114112) ∧ x.length ≤ lim := by
  unfold okT
  rw [Bool.and_eq_true, List.all_eq_true, decide_eq_true_iff]
  exact ⟨fun h => ⟨fun c m => of_decide_eq_true (h.1 c m), h.2⟩, fun h => ⟨fun c m => decide_eq_true (h.1 c m), h.2⟩⟩
theorem okT_len {x : Tx} (h : okT x = true) : x.length ≤ sizeLine := by
  rw [← lim_eq]
  exact (okT_iff.mp h).2
theorem okT_append {x y : Tx} (h : okT x = true) (g : okT y = true) (l : x.length + y.length ≤ lim) : okT (x ++ y) = true := by
  rw [okT_iff] at *
  refine ⟨fun c m => ?_, by rw [List.length_append]; exact l⟩
  rcases List.mem_append.mp m with m | m
  · exact h.1 c m
  · exact g.1 c m
theorem toS_append (x y : Tx) : toS (x ++ y) = toS x ++ toS y := by
  apply ext_tl
  rw [tl_append]
  rfl
theorem toS_length (x : Tx) : (toS x).length = x.length := by rw [len_tl]; rfl
theorem VR.ref_of {i : Nat} (h : VR K ca rho H (.ref i) u) : ∃ a, u = .ref a ∧ rho[i]? = some a := by simpa [VR] using h
theorem VR.tup_of {xs : List Val} (h : VR K ca rho H (.tup xs) u) : ∃ a vs, u = .ref a ∧ TupK H a vs ∧ VRs K ca rho H xs vs := by simpa [VR] using h
theorem VR.lst_of {xs : List Val} (h : VR K ca rho H (.lst xs) u) : ∃ a vs, u = .ref a ∧ SqL K H a vs ∧ VRs K ca rho H xs vs := by
  simp only [VR] at h
  obtain ⟨a, vs, e, q, r⟩ := h
  refine ⟨a, vs, e, ?_, r⟩
  rcases q with ⟨o, q⟩ | q
  · exact .inl (.inr ⟨o, q⟩)
  · exact .inr q
theorem VR.dct_of {kvs : List (Tx × Int)} (h : VR K ca rho H (.dct kvs) u) : ∃ a o, u = .ref a ∧ H a = some (.frz o (.dK (kvs.map fun p => (.inr (toS p.1), .int p.2)))) := by simpa [VR] using h
theorem VR.str_of {z : Tx} (h : VR K ca rho H (.str z) u) : u = .str (toS z) ∧ okT z = true := by simpa [VR] using h
theorem VR.int_of {i : Int} (h : VR K ca rho H (.int i) u) : u = .int i := by simpa [VR] using h
theorem VR.bl_of {i : Bool} (h : VR K ca rho H (.bl i) u) : u = .bl i := by simpa [VR] using h
theorem VR.non_of (h : VR K ca rho H .non u) : u = .non := by simpa [VR] using h
/-! ### new tuples, their objects known -/
/-- for each tuple that may be new at p: its object has no dict -/
def NewT (H : Hp) (zs : List V) (Q : VK) : Prop := ∀ (p : Addr) (o : Obj), o.dict = none → H p = none → Q (.ref p) (upd H p (.frz o (.tup zs)))
section
variable {X : Cx} {pins : List (Addr × Obj)} {sg : L2.St} {sh : Shared}
theorem laidT {zs : List V} {us : List Value} {tk : Nat} (I : Inv X pins sg H sh) (r : Vals zs us) (hz : zs.length ≤ sizeLine) (h : NewT H zs Q) :
    EP X pins sg Q (.ref sh.heap.objs.size) { sh with heap := sh.heap.push { cls := .type "tuple", data := .seq us.toArray }, toks := tk } := by
  have hf : H sh.heap.objs.size = none := I.hok.fresh (Nat.le_refl _)
  have hg : (sh.heap.push { cls := .type "tuple", data := .seq us.toArray }).get? sh.heap.objs.size = some { cls := .type "tuple", data := .seq us.toArray } := Heap.get?_push_size _ rfl
  exact ⟨.ref sh.heap.objs.size, _, I.laid (t' := tk) (a := sh.heap.objs.size) (o := .frz { cls := .type "tuple", data := .seq us.toArray } (.tup zs)) (fun b u e => Heap.get?_push_of_some _ e) (Nat.le_refl _) ⟨hg, hz, us, r, ⟨_, hg, rfl, _, rfl⟩⟩, rfl, h _ { cls := .type "tuple", data := .seq us.toArray } rfl hf⟩
end
def tTupF (t : TA) : TE := fun sg H Q => t sg H fun xs H1 => xs.length ≤ sizeLine ∧ NewT H1 xs Q
theorem pe_tupF {X : Cx} {es : List Expr} {t : TA} {n : Nat} {pos : Pos} (h : PA X es t) : PE X (.Tuple es n pos) (tTupF t) := by
  refine ⟨fun pins sh sg H Q I hq => ?_⟩
  refine wpAny_Tuple_spliced (thn (h.run pos pins sh sg H _ I hq) fun us s1 ⟨xs, H1, I1, r, z, q⟩ => ⟨by rw [← r.length]; exact z, ?_⟩)
  exact laidT (tk := s1.toks) I1 r z q
def rCatF (K : PySem.W.Frag) : R2 := fun x y H Q => ∃ a b xs ys, x = .ref a ∧ y = .ref b ∧ SqT K H a xs ∧ SqT K H b ys ∧ xs.length + ys.length ≤ sizeLine ∧
  (xs = [] → Q (.ref b) H) ∧ (xs ≠ [] → ys = [] → Q (.ref a) H) ∧ (xs ≠ [] → ys ≠ [] → NewT H (xs ++ ys) Q)
theorem op_catF {X : Cx} : OpR X (binaryOp .Add) (rCatF X.K) := by
  intro pins sh sg H x y v u Q I rx ry h
  obtain ⟨a, b, xs, ys, rfl, rfl, ha, hb, hz, q0, q1, q2⟩ := h
  cases rx
  cases ry
  obtain ⟨its, r1, p1, _⟩ := I.tuple ha
  obtain ⟨its2, r2, p2, _⟩ := I.tuple hb
  by_cases hx : xs = []
  · subst hx
    cases r1
    exact cat_tup0 p1 p2 ⟨.ref b, H, I, rfl, q0 rfl⟩
  · have hi : its ≠ [] := fun z => hx (by have e := r1.length; rw [z] at e; exact List.length_eq_zero_iff.mp e)
    refine HT.cat_tup p1 p2 hi (fun e => ?_) (fun e => ?_) ?_
    · have hy : ys = [] := by
        have e2 := r2.length
        rw [e] at e2
        exact List.length_eq_zero_iff.mp e2
      exact ⟨.ref a, H, I, rfl, q1 hx hy⟩
    · have hy : ys ≠ [] := fun z => e (by subst z; cases r2; rfl)
      exact laidT (tk := sh.toks) I (r1.append r2) (by rw [List.length_append]; exact hz) (q2 hx hy)
    · rw [← r1.length, ← r2.length]; exact hz
/-! ### + - * % // ** -/
def rAddAll (K : PySem.W.Frag) : R2 := fun x y H Q => (rI0 fun i j => .int (i + j)) x y H Q ∨ (∃ i j, x = .str i ∧ y = .str j ∧ i.length + j.length ≤ sizeLine ∧ Q (.str (i ++ j)) H) ∨ rCatF K x y H Q ∨ rCat x y H Q
theorem s_add (R : RelS K ca rho s H) (hx : VR K ca rho H x u) (hy : VR K ca rho H y v) (h : PV K ca xn (opv .add x y s) rho H Q E) : rAddAll K u v H Q := by
  cases x <;> cases y <;> first | exact False.elim h | skip
  · cases hx.int_of; cases hy.int_of
    exact .inl ⟨_, _, rfl, rfl, PV.int R h⟩
  · obtain ⟨rfl, k1⟩ := hx.str_of
    obtain ⟨rfl, k2⟩ := hy.str_of
    obtain ⟨c, h⟩ := Post.chk h
    refine .inr (.inl ⟨_, _, rfl, rfl, ?_, ?_⟩)
    · rw [toS_length, toS_length, ← lim_eq]; exact of_decide_eq_true c
    · rw [← toS_append]
      exact PV.str R h (okT_append k1 k2 (of_decide_eq_true c))
  · rename_i xs ys
    obtain ⟨a, vs, rfl, q1, r1⟩ := hx.tup_of
    obtain ⟨b, ws, rfl, q2, r2⟩ := hy.tup_of
    obtain ⟨c, h⟩ := Post.chk h
    have hk := h.ret R
    refine .inr (.inr (.inl ⟨a, b, vs, ws, rfl, rfl, q1.sq, q2.sq, ?_, fun e => ?_, fun _ e => ?_, fun _ _ p o ho hp => ?_⟩))
    · rw [← r1.len, ← r2.len, ← lim_eq]; exact of_decide_eq_true c
    · have e1 : xs = [] := List.length_eq_zero_iff.mp (by rw [r1.len, e]; rfl)
      subst e1
      refine hk _ ?_
      simp only [VR]
      exact ⟨b, ws, rfl, q2, by simpa using r2⟩
    · have e1 : ys = [] := List.length_eq_zero_iff.mp (by rw [r2.len, e]; rfl)
      subst e1
      refine hk _ ?_
      simp only [VR]
      exact ⟨a, vs, rfl, q1, by simpa using r1⟩
    · exact PV.tup R (r1.append r2) h ho hp
  · obtain ⟨a, rfl, g1⟩ := hx.ref_of
    obtain ⟨b, rfl, g2⟩ := hy.ref_of
    obtain ⟨xs, vs, e1, e2, r1, h⟩ := Post.lookL R g1 h
    obtain ⟨ys, ws, e3, e4, r2, h⟩ := Post.lookL R g2 h
    obtain ⟨c, h⟩ := Post.chk h
    refine .inr (.inr (.inr ⟨a, b, vs, ws, rfl, rfl, e2, e4, ?_, fun p hp => ?_⟩))
    · rw [← r1.len, ← r2.len, ← lim_eq]; exact of_decide_eq_true c
    · exact PV.lst R (r1.append r2) h hp
theorem s_sub (R : RelS K ca rho s H) (hx : VR K ca rho H x u) (hy : VR K ca rho H y v) (h : PV K ca xn (opv .sub x y s) rho H Q E) : (rI0 fun i j => .int (i - j)) u v H Q := by
  cases x <;> cases y <;> first | exact False.elim h | skip
  cases hx.int_of; cases hy.int_of
  exact ⟨_, _, rfl, rfl, PV.int R h⟩
theorem small_ok {i : Int} (h : smallI i = true) : -(2 ^ 64) < i ∧ i < 2 ^ 64 := by
  unfold smallI at h
  rw [Bool.and_eq_true] at h
  exact ⟨of_decide_eq_true h.1, of_decide_eq_true h.2⟩
theorem VRs.rep {xs : List Val} {vs : List V} (h : VRs K ca rho H xs vs) : ∀ n : Nat, VRs K ca rho H (repl xs n) (List.replicate n vs).flatten
  | 0 => by simp [repl, VRs]
  | n + 1 => by
    have := VRs.rep h n
    unfold repl at *
    rw [List.replicate_succ, List.replicate_succ, List.flatten_cons, List.flatten_cons]
    exact h.append this
/-- a tuple again and again, the new object known -/
def rAgain (K : PySem.W.Frag) : R2 := fun x y H Q => ∃ a n zs, x = .ref a ∧ y = .int n ∧ SqT K H a zs ∧ (1 ≤ zs.length ∧ zs.length ≤ 1000) ∧ (2 ≤ n ∧ n ≤ 1000) ∧ NewT H (List.replicate n.toNat zs).flatten Q
theorem len_again {α : Type} (zs : List α) : ∀ m : Nat, (List.replicate m zs).flatten.length = m * zs.length
  | 0 => by simp
  | m + 1 => by rw [List.replicate_succ, List.flatten_cons, List.length_append, len_again zs m, Nat.succ_mul, Nat.add_comm]
theorem op_again {X : Cx} : OpR X (binaryOp .Mult) (rAgain X.K) := by
  rintro pins sh sg H x y u v Q I rx ry ⟨a, n, zs, rfl, rfl, ht, ⟨z1, z2⟩, ⟨n1, n2⟩, q⟩
  cases rx
  obtain ⟨tk, rfl⟩ := ry
  obtain ⟨us, r, ⟨⟨kl, od, da, ss⟩, hg, hk, m, hm⟩, _⟩ := I.tuple ht
  cases hk
  cases hm
  have lu : us.length = zs.length := r.length.symm
  have big : (List.replicate n.toNat us).flatten.length ≤ 1000000 := by
    rw [len_again, lu]
    exact Nat.mul_le_mul (show n.toNat ≤ 1000 by omega) z2
  have full : us.toArray.isEmpty = false := by
    cases us with
    | nil => simp at lu; omega
    | cons _ _ => rfl
  have mul : ((us.toArray.size : Nat) : Int) * n ≤ 1000000 := by
    rw [List.size_toArray, lu]
    have k1 : ((zs.length : Nat) : Int) * n ≤ 1000 * n := Int.mul_le_mul_of_nonneg_right (by omega) (by omega)
    omega
  have line : 1000000 ≤ sizeLine := by rw [sizeLine_eq]; decide
  have fits : (List.foldl (fun p q => p ++ q) #[] (List.replicate n.toNat us.toArray)).size ≤ sizeLine := by
    rw [size_rep, List.size_toArray]
    omega
  have again := tuple_mulW a us.toArray m od ss n tk (by simp; omega) (by rw [full, Bool.false_or]; exact beq_false_of_ne (by omega)) (by rw [full, Bool.or_false]; exact decide_eq_false (by omega)) (by omega)
    (by unfold Builtin.Tuple.tupleTooMany; exact decide_eq_false (by omega)) fits
  refine wpAny_binaryOp_repeat_ref (T := "tuple") (U := "int") (by decide) ⟨_, hg, rfl⟩ (fun t => typeIs_int t n tk) noFill_tuple_mul F.fills_int_mul F.slot_int_rmul repeat_tuple F.slot_int_index.lookup
    (call_meets F.slot_int_rmul (typeIs_int sh n tk) F.entry_int_rmul (F.args_int_rmul_2 _ _) (int_rmul_tuple n tk a us.toArray m od ss)
      ⟨hg, rfl, ⟨_, hg, rfl⟩, call_meets F.slot_tuple_mul ⟨_, hg, rfl⟩ F.entry_tuple_mul (F.args_tuple_mul_2 _ _) again ⟨hg, ?_⟩⟩)
  rw [size_rep]
  exact laidT (tk := sh.toks) I (r.rep n.toNat) (by rw [len_again, ← lu, ← len_again]; omega) q
def rMulAll (K : PySem.W.Frag) : R2 := fun x y H Q => rI CMul (fun i j => .int (i * j)) x y H Q ∨ rRep x y H Q ∨ rAgain K x y H Q
theorem s_mul (R : RelS K ca rho s H) (hx : VR K ca rho H x u) (hy : VR K ca rho H y v) (h : PV K ca xn (opv .mul x y s) rho H Q E) : rMulAll K u v H Q := by
  cases x <;> cases y <;> first | exact False.elim h | skip
  · cases hx.int_of; cases hy.int_of
    obtain ⟨c, h⟩ := Post.chk h
    refine .inl ⟨_, _, rfl, rfl, ?_, PV.int R h⟩
    rw [Bool.or_eq_true] at c
    exact c.elim (fun c => .inl (small_ok c)) fun c => .inr (small_ok c)
  · rename_i xs n
    obtain ⟨a, vs, rfl, q1, r1⟩ := hx.tup_of
    cases hy.int_of
    obtain ⟨c, h⟩ := Post.chk h
    simp only [Bool.and_eq_true, decide_eq_true_eq] at c
    have hk := h.ret R
    refine .inr (.inr ⟨a, n, vs, rfl, rfl, q1.sq, ⟨by rw [← r1.len]; exact c.1.1.1, by rw [← r1.len]; exact c.1.1.2⟩, ⟨c.1.2, c.2⟩, fun p o ho hp => PV.tup R (r1.rep _) h ho hp⟩)
  · obtain ⟨a, rfl, g1⟩ := hx.ref_of
    cases hy.int_of
    obtain ⟨xs, vs, e1, e2, r1, h⟩ := Post.lookL R g1 h
    obtain ⟨c, h⟩ := Post.chk h
    rw [Bool.and_eq_true, Bool.and_eq_true] at c
    refine .inr (.inl ⟨a, _, vs, rfl, rfl, e2, of_decide_eq_true c.1.1, of_decide_eq_true c.1.2, ?_, fun p hp => PV.lst R (r1.rep _) h hp⟩)
    rw [← r1.len, ← lim_eq]; exact of_decide_eq_true c.2
theorem s_mod (R : RelS K ca rho s H) (hx : VR K ca rho H x u) (hy : VR K ca rho H y v) (h : PV K ca xn (opv .mod x y s) rho H Q E) : rI (fun _ j => j ≠ 0) (fun i j => .int (i.fmod j)) u v H Q := by
  cases x <;> cases y <;> first | exact False.elim h | skip
  cases hx.int_of; cases hy.int_of
  obtain ⟨c, h⟩ := Post.chk h
  exact ⟨_, _, rfl, rfl, by simpa using c, PV.int R h⟩
theorem s_fdiv (R : RelS K ca rho s H) (hx : VR K ca rho H x u) (hy : VR K ca rho H y v) (h : PV K ca xn (opv .fdiv x y s) rho H Q E) : rI CDivN (fun i j => .int (i.fdiv j)) u v H Q := by
  cases x <;> cases y <;> first | exact False.elim h | skip
  cases hx.int_of; cases hy.int_of
  obtain ⟨c, h⟩ := Post.chk h
  rw [Bool.and_eq_true] at c
  exact ⟨_, _, rfl, rfl, ⟨by simpa using c.1, of_decide_eq_true c.2⟩, PV.int R h⟩
theorem s_pow (R : RelS K ca rho s H) (hx : VR K ca rho H x u) (hy : VR K ca rho H y v) (h : PV K ca xn (opv .pow x y s) rho H Q E) : rI CPow (fun i j => .int (i ^ j.toNat)) u v H Q := by
  cases x <;> cases y <;> first | exact False.elim h | skip
  cases hx.int_of; cases hy.int_of
  obtain ⟨c, h⟩ := Post.chk h
  rw [Bool.and_eq_true, Bool.and_eq_true] at c
  exact ⟨_, _, rfl, rfl, ⟨of_decide_eq_true c.1.1, of_decide_eq_true c.1.2, of_decide_eq_true c.2⟩, PV.int R h⟩
/-- every operator -/
def oper : Op → Operator
  | .add => .Add | .sub => .Sub | .mul => .Mult | .mod => .Mod | .fdiv => .FloorDiv | .pow => .Pow
def rOp (K : PySem.W.Frag) : Op → R2
  | .add => rAddAll K | .sub => rI0 fun i j => .int (i - j) | .mul => rMulAll K | .mod => rI (fun _ j => j ≠ 0) fun i j => .int (i.fmod j) | .fdiv => rI CDivN fun i j => .int (i.fdiv j) | .pow => rI CPow fun i j => .int (i ^ j.toNat)
theorem op_all {X : Cx} : ∀ o : Op, OpR X (binaryOp (oper o)) (rOp X.K o)
  | .add => op_add.or (op_add_str.or (op_catF.or op_cat))
  | .sub => op_sub
  | .mul => op_mul.or (op_rep.or op_again)
  | .mod => op_modN
  | .fdiv => op_fdivN
  | .pow => op_pow
theorem s_op : ∀ (o : Op), RelS K ca rho s H → VR K ca rho H x u → VR K ca rho H y v → PV K ca xn (opv o x y s) rho H Q E → rOp K o u v H Q
  | .add, R, hx, hy, h => s_add R hx hy h
  | .sub, R, hx, hy, h => s_sub R hx hy h
  | .mul, R, hx, hy, h => s_mul R hx hy h
  | .mod, R, hx, hy, h => s_mod R hx hy h
  | .fdiv, R, hx, hy, h => s_fdiv R hx hy h
  | .pow, R, hx, hy, h => s_pow R hx hy h
/-! ### an index, a slice -/
theorem ixN_eq (n : Nat) (i : Int) : PI.ixN n i = L2.ixN n i := rfl
theorem atI_get {xs : List Val} {vs : List V} {i : Int} {w : Val} (r : VRs K ca rho H xs vs) (h : PI.atI xs i = some w) : ∃ z, L2.atI vs i = some z ∧ VR K ca rho H w z := by
  unfold PI.atI at h
  unfold L2.atI
  rw [← r.len, ← ixN_eq]
  cases e : PI.ixN xs.length i with
  | none => rw [e] at h; cases h
  | some j =>
    rw [e] at h
    exact r.get h
theorem okT_one {c : Nat} (h : c < 1114112) : okT [c] = true := okT_iff.mpr ⟨fun d m => by rw [List.mem_singleton.mp m]; exact h, by unfold lim; simp⟩
theorem okT_mem {z : Tx} (h : okT z = true) {c : Nat} (m : c ∈ z) : okT [c] = true := okT_one ((okT_iff.mp h).1 c m)
theorem s_idx (R : RelS K ca rho s H) (hx : VR K ca rho H x u) (hy : VR K ca rho H y v) (h : PV K ca xn (idxv x y s) rho H Q E) : rIx K u v H Q := by
  cases x <;> cases y <;> first | exact False.elim h | skip
  · rename_i z i
    obtain ⟨rfl, k1⟩ := hx.str_of
    cases hy.int_of
    obtain ⟨c, e, h⟩ := Post.opt R h.bnd
    refine .inr (.inr ⟨_, i, c, rfl, rfl, ?_, e, ?_⟩)
    · rw [toS_length]; exact okT_len k1
    · have m : c ∈ z := by
        unfold PI.atI at e
        cases q : PI.ixN z.length i with
        | none => rw [q] at e; cases e
        | some j => rw [q] at e; exact List.mem_of_getElem? e
      exact PV.str R h (okT_mem k1 m)
  · obtain ⟨a, vs, rfl, q1, r1⟩ := hx.tup_of
    cases hy.int_of
    obtain ⟨w, e, h⟩ := Post.opt R h
    obtain ⟨z, e2, r2⟩ := atI_get r1 e
    exact .inr (.inl ⟨a, vs, _, z, rfl, rfl, q1.sq, e2, h _ r2⟩)
  · obtain ⟨a, rfl, g1⟩ := hx.ref_of
    cases hy.int_of
    obtain ⟨xs, vs, e1, e2, r1, h⟩ := Post.lookL R g1 h
    obtain ⟨w, e, h⟩ := Post.opt R h
    obtain ⟨z, e3, r2⟩ := atI_get r1 e
    exact .inl ⟨a, vs, _, z, rfl, rfl, SqL.of e2, e3, h _ r2⟩
  · obtain ⟨a, vs, rfl, q1, r1⟩ := hx.lst_of
    cases hy.int_of
    obtain ⟨w, e, h⟩ := Post.opt R h
    obtain ⟨z, e2, r2⟩ := atI_get r1 e
    exact .inl ⟨a, vs, _, z, rfl, rfl, q1, e2, h _ r2⟩
theorem sIx_eq (n d : Nat) (o : Option Int) : PI.sIx n d o = HT.sIx n d o := by cases o <;> rfl
theorem VRs.cut {xs : List Val} {vs : List V} (r : VRs K ca rho H xs vs) (lo hi : Option Int) : VRs K ca rho H (PI.cut xs lo hi) (cutV vs lo hi) := by
  unfold PI.cut cutV
  rw [← r.len, sIx_eq, sIx_eq]
  exact (r.drop _).take _
theorem okT_sub {z y : Tx} (h : okT z = true) (hs : ∀ c ∈ y, c ∈ z) (hl : y.length ≤ z.length) : okT y = true := by
  rw [okT_iff] at *
  exact ⟨fun c m => h.1 c (hs c m), Nat.le_trans hl h.2⟩
theorem okT_cut {z : Tx} (h : okT z = true) (lo hi : Option Int) : okT (PI.cut z lo hi) = true := okT_sub h (fun _ m => List.mem_of_mem_drop (List.mem_of_mem_take m)) (by unfold PI.cut; rw [List.length_take, List.length_drop]; omega)
theorem toS_cut (z : Tx) (lo hi : Option Int) : cutS (toS z) lo hi = toS (PI.cut z lo hi) := by
  unfold cutS PI.cut
  rw [toS_length, sIx_eq, sIx_eq]
  rfl
def rSlF (K : PySem.W.Frag) : V → Option Int → Option Int → Hp → VK → Prop := fun x lo hi H Q => ∃ a xs, x = .ref a ∧ SqT K H a xs ∧
  (HT.sIx xs.length 0 lo = 0 ∧ HT.sIx xs.length xs.length hi = xs.length → Q (.ref a) H) ∧ (¬ (HT.sIx xs.length 0 lo = 0 ∧ HT.sIx xs.length xs.length hi = xs.length) → NewT H (cutV xs lo hi) Q)
theorem sl_tupF {X : Cx} : SlR X (rSlF X.K) := by
  intro pins sh sg H x v vl vu lo hi sl Q I rx hs pl pu h
  obtain ⟨a, xs, rfl, hx, q1, q2⟩ := h
  cases rx
  obtain ⟨its, r, ht, hz⟩ := I.tuple hx
  have hlen : its.toArray.size = xs.length := by rw [List.size_toArray]; exact r.length.symm
  refine ⟨"tuple", _, PyProof.Rows.slot_tuple_getitem.lookup, ht.typeIs, ?_⟩
  by_cases hw : HT.sIx xs.length 0 lo = 0 ∧ HT.sIx xs.length xs.length hi = xs.length
  · exact getItem_tuple_whole ht hs pl pu (by rw [hlen]; exact hw) ⟨.ref a, H, I, rfl, q1 hw⟩
  · refine HT.getItem_tuple_cut ht hs pl pu (by rw [hlen]; exact hw) ?_ (by rw [hlen]; exact hz)
    rw [hlen]
    exact laidT (tk := sh.toks) I ((r.drop (HT.sIx xs.length 0 lo)).take (HT.sIx xs.length xs.length hi - HT.sIx xs.length 0 lo)) (Nat.le_trans (cutV_length xs lo hi) hz) (q2 hw)
def rSlAll (K : PySem.W.Frag) : V → Option Int → Option Int → Hp → VK → Prop := fun x lo hi H Q => rSlF K x lo hi H Q ∨ rSlS x lo hi H Q ∨ rSlL K x lo hi H Q
theorem sl_all {X : Cx} : SlR X (rSlAll X.K) := sl_tupF.or (sl_str.or sl_list)
theorem s_slc {lo hi : Option Int} (R : RelS K ca rho s H) (hx : VR K ca rho H x u) (h : PV K ca xn (slcv x lo hi s) rho H Q E) : rSlAll K u lo hi H Q := by
  cases x <;> first | exact False.elim h | skip
  · rename_i z
    obtain ⟨rfl, k1⟩ := hx.str_of
    refine .inr (.inl ⟨_, rfl, ?_, ?_⟩)
    · rw [toS_length]; exact okT_len k1
    · rw [toS_cut]
      exact PV.str R h (okT_cut k1 lo hi)
  · rename_i xs
    obtain ⟨a, vs, rfl, q1, r1⟩ := hx.tup_of
    refine .inl ⟨a, vs, rfl, q1.sq, fun e => ?_, fun _ p o ho hp => PV.tup R (r1.cut lo hi) h ho hp⟩
    refine h.ret R _ ?_
    have e2 : PI.cut xs lo hi = xs := by
      unfold PI.cut
      rw [r1.len, sIx_eq, sIx_eq, e.1, e.2, List.drop_zero, Nat.sub_zero, ← r1.len, List.take_length]
    rw [e2]
    simp only [VR]
    exact ⟨a, vs, rfl, q1, r1⟩
  · obtain ⟨a, rfl, g1⟩ := hx.ref_of
    obtain ⟨xs, vs, e1, e2, r1, h⟩ := Post.lookL R g1 h
    exact .inr (.inr ⟨a, vs, rfl, SqL.of e2, fun p hp => PV.lst R (r1.cut lo hi) h hp⟩)
  · obtain ⟨a, vs, rfl, q1, r1⟩ := hx.lst_of
    exact .inr (.inr ⟨a, vs, rfl, q1, fun p hp => PV.lst R (r1.cut lo hi) h hp⟩)
end
end PI
end

section
set_option Elab.async false
set_option linter.all false
set_option maxRecDepth 100000
/-! PyS2: comparisons. -/
namespace PI
open PySem PySem.Spec PyProof.Rows L2 TL
/-! ### deep values as the library's data -/
theorem toS_beq (x y : Tx) : (toS x == toS y) = (x == y) := by
  by_cases h : x = y
  · subst h; simp
  · have h2 : ¬ toS x = toS y := fun z => h (toS_inj z)
    rw [beq_eq_false_iff_ne.mpr h, beq_eq_false_iff_ne.mpr h2]
theorem toS_beq' (x y : Tx) : ((⟨x.toArray⟩ : Str) == ⟨y.toArray⟩) = (x == y) := toS_beq x y
mutual
theorem eqv_pd : ∀ a b : Val, PyData.eqv (pd a) (pd b) = veq a b
  | .non, b => by cases b <;> simp [pd, PyData.eqv, veq]
  | .bl x, b => by cases b <;> simp [pd, PyData.eqv, veq]
  | .int x, b => by cases b <;> simp [pd, PyData.eqv, veq]
  | .str x, b => by cases b <;> simp [pd, PyData.eqv, veq, toS_beq']
  | .tup xs, b => by cases b <;> simp [pd, PyData.eqv, veq, eqv_pds xs]
  | .lst xs, b => by cases b <;> simp [pd, PyData.eqv, veq, eqv_pds xs]
  | .ref i, b => by cases b <;> simp [pd, PyData.eqv, veq]
  | .dct i, b => by cases b <;> simp [pd, PyData.eqv, veq]
theorem eqv_pds : ∀ xs ys : List Val, PyData.eqvAll (pds xs) (pds ys) = veqs xs ys
  | [], ys => by cases ys <;> simp [pds, PyData.eqvAll, veqs]
  | x :: r, ys => by cases ys <;> simp [pds, PyData.eqvAll, veqs, eqv_pd x, eqv_pds r]
end
theorem any_pds (d : Val) : ∀ xs : List Val, ((pds xs).any fun z => PyData.eqv z (pd d)) = memV d xs
  | [] => rfl
  | x :: r => by
    have := any_pds d r
    unfold memV at *
    simp [pds, eqv_pd, this]
section
variable {K : PySem.W.Frag} {ca : Nat → Addr} {xn : Xn} {rho : List Addr} {H : Hp} {s : S} {Q : VK} {E : Value → Option Addr → Hp → Prop} {x y : Val} {u v : V}
/-- what a deep value is worth -/
structure DpI (K : PySem.W.Frag) (H : Hp) (n : Nat) (d : Val) (u : V) : Prop where
  dp : Dp K H u (pd d)
  lay : (pd d).canLay0 = true
  dep : (pd d).depth ≤ n
theorem bnd_assoc {α β γ : Type} (m : M α) (f : α → M β) (g : β → M γ) : bnd (bnd m f) g = bnd m (fun a => bnd (f a) g) := by
  funext s
  unfold bnd
  cases m s <;> rfl
theorem mapM_nil {α β : Type} {f : α → Option β} : ([] : List α).mapM f = some [] := rfl
theorem mapM_cons {α β : Type} {f : α → Option β} {x : α} {r : List α} {ys : List β} (h : (x :: r).mapM f = some ys) : ∃ y q, ys = y :: q ∧ f x = some y ∧ r.mapM f = some q := by
  rw [List.mapM_cons] at h
  cases e : f x with
  | none => rw [e] at h; cases h
  | some y =>
    rw [e] at h
    cases e2 : r.mapM f with
    | none => rw [e2] at h; cases h
    | some q =>
      rw [e2] at h
      exact ⟨y, q, (Option.some.inj h).symm, rfl, rfl⟩
theorem depth_tuple (xs : List PyData) : (PyData.tuple xs).depth = PyData.depthAll xs + 1 := by simp [PyData.depth]
theorem deep_list {n : Nat} (ih : ∀ (v d : Val) (u : V), deep s.st n v = some d → VR K ca rho H v u → DpI K H n d u) :
    ∀ (xs ys : List Val) (vs : List V), xs.mapM (deep s.st n) = some ys → VRs K ca rho H xs vs → DpAll K H vs (pds ys) ∧ PyData.canLayAll0 (pds ys) = true ∧ PyData.depthAll (pds ys) ≤ n
  | [], ys, vs, h, r => by
    rw [mapM_nil] at h
    cases h
    simp only [VRs] at r
    subst r
    exact ⟨.nil, rfl, Nat.zero_le _⟩
  | x :: q, ys, vs, h, r => by
    obtain ⟨y, p, rfl, h1, h2⟩ := mapM_cons h
    simp only [VRs] at r
    obtain ⟨w, ws, rfl, r1, r2⟩ := r
    obtain ⟨i1, i2, i3⟩ := ih x y w h1 r1
    obtain ⟨j1, j2, j3⟩ := deep_list ih q p ws h2 r2
    refine ⟨?_, ?_, ?_⟩
    · simp only [pds]; exact .cons i1 j1
    · simp only [pds, PyData.canLayAll0, i2, j2, Bool.and_self]
    · simp only [pds, PyData.depthAll]; omega
theorem okT_strOk {z : Tx} (h : okT z = true) : PyData.strOk (toS z) = true := by
  unfold PyData.strOk toS
  rw [List.all_toArray]
  rw [List.all_eq_true]
  intro c m
  exact decide_eq_true ((okT_iff.mp h).1 c m)
theorem deep_ok (R : RelS K ca rho s H) : ∀ (n : Nat) (v d : Val) (u : V), deep s.st n v = some d → VR K ca rho H v u → DpI K H n d u
  | n, .non, d, u, h, r => by
    cases n <;> (simp only [deep] at h; cases h; cases r.non_of; exact ⟨.non, rfl, Nat.zero_le _⟩)
  | n, .bl b, d, u, h, r => by
    cases n <;> (simp only [deep] at h; cases h; cases r.bl_of; exact ⟨.bl b, rfl, Nat.zero_le _⟩)
  | n, .int i, d, u, h, r => by
    cases n <;> (simp only [deep] at h; cases h; cases r.int_of; exact ⟨.int i, rfl, Nat.zero_le _⟩)
  | n, .str z, d, u, h, r => by
    obtain ⟨rfl, k⟩ := r.str_of
    cases n <;> (simp only [deep] at h; cases h; exact ⟨.str _, okT_strOk k, Nat.zero_le _⟩)
  | n + 1, .tup xs, d, u, h, r => by
    simp only [deep] at h
    obtain ⟨a, vs, rfl, q, r⟩ := r.tup_of
    cases e : xs.mapM (deep s.st n) with
    | none => rw [e] at h; cases h
    | some ys =>
      rw [e] at h
      cases h
      obtain ⟨j1, j2, j3⟩ := deep_list (deep_ok R n) xs ys vs e r
      refine ⟨?_, ?_, ?_⟩
      · simp only [pd]; exact .tup q.sq j1
      · simp only [pd, PyData.canLay0, j2]
      · simp only [pd, PyData.depth]; omega
  | n + 1, .ref i, d, u, h, r => by
    simp only [deep] at h
    obtain ⟨a, rfl, g⟩ := r.ref_of
    cases e : s.st[i]? with
    | none => rw [e] at h; cases h
    | some o =>
      rw [e] at h
      cases o with
      | ins c fs => cases h
      | lst xs =>
        cases e2 : xs.mapM (deep s.st n) with
        | none => simp only [e2] at h; cases h
        | some ys =>
          simp only [e2] at h
          cases h
          obtain ⟨vs, h1, h2⟩ := R.at_ i _ a e g
          obtain ⟨j1, j2, j3⟩ := deep_list (deep_ok R n) xs ys vs e2 h2
          refine ⟨?_, ?_, ?_⟩
          · simp only [pd]; exact .lst (SqL.of h1) j1
          · simp only [pd, PyData.canLay0, j2]
          · simp only [pd, PyData.depth]; omega
  | 0, .tup xs, d, u, h, r => by simp only [deep] at h; cases h
  | 0, .ref i, d, u, h, r => by simp only [deep] at h; cases h
  | 0, .lst i, d, u, h, r => by simp only [deep] at h; cases h
  | n + 1, .lst i, d, u, h, r => by simp only [deep] at h; cases h
  | 0, .dct i, d, u, h, r => by simp only [deep] at h; cases h
  | n + 1, .dct i, d, u, h, r => by simp only [deep] at h; cases h
theorem Post.deepM {α : Type} {f : Val → M α} {Q : α → List Addr → S → Hp → Prop} (R : RelS K ca rho s H) (hx : VR K ca rho H x u) (h : Post K ca xn (PI.bnd (PI.deepM x) f s) rho H Q E) :
    ∃ d, DpI K H 60 d u ∧ deep s.st 60 x = some d ∧ Post K ca xn (f d s) rho H Q E := by
  have h := h.bnd
  unfold PI.deepM at h
  cases e : deep s.st 60 x with
  | none => rw [e] at h; exact h.elim
  | some d =>
    rw [e] at h
    exact ⟨d, deep_ok R 60 x d u e hx, rfl, h rho H Ext.rfl' R⟩
theorem DpI.shaped {d : Val} (h : DpI K H 60 d u) : SeqAt.shaped (pd d) = true := by
  unfold SeqAt.shaped
  rw [h.lay, decide_eq_true (Nat.le_trans h.dep (by decide))]
  rfl
/-- what is wanted of a run that gives a truth value -/
abbrev PB (K : PySem.W.Frag) (ca : Nat → Addr) (xn : Xn) (r : R Bool) (rho : List Addr) (H : Hp) (Q : VK) (E : Value → Option Addr → Hp → Prop) : Prop :=
  Post K ca xn r rho H (fun a _ _ H' => Q (.bl a) H') E
theorem Post.noEx {α : Type} {m : M α} {Q : α → List Addr → S → Hp → Prop} {E E' : Value → Option Addr → Hp → Prop} (h : Post K ca xn (PI.noEx m s) rho H Q E) : Post K ca xn (m s) rho H Q E' := by
  unfold PI.noEx at h
  cases e : m s with
  | ok a s' => rw [e] at h; exact h
  | ex x s' => rw [e] at h; exact h.elim
  | bad => rw [e] at h; exact h.elim
/-- one's own == between instances of one class -/
def othB (s : S) (c : Nat) (v : Val) : Bool := match insOf s v with
  | some (c2, _) => decide (c2 = c)
  | none => forB s v
def rOwn (ca : Nat → Addr) (xn : Xn) (g : G) (K : PySem.W.Frag) (neg : Bool) : R2 := fun x y H Q => ∃ (i : Nat) (vb : Val) (a : Addr) (c f : Nat) (fs : List (Str × Val)) (rho : List Addr) (s : S),
  x = .ref a ∧ RelS K ca rho s H ∧ rho[i]? = some a ∧ VR K ca rho H vb y ∧ s.st[i]? = some (.ins c fs) ∧ othB s c vb = true ∧ (g.pg.cs c).bind (·.eqm) = some f ∧
  Post K ca xn (g.call f [.ref i, vb] s) rho H (fun v _ _ H' => ∃ k, v = .bl k ∧ Q (.bl (if neg then !k else k)) H') (fun _ _ _ => False)
theorem insOf_at {s : S} {v : Val} {c : Nat} {fs : List (Str × Val)} (h : insOf s v = some (c, fs)) : ∃ i, v = .ref i ∧ s.st[i]? = some (.ins c fs) := by
  unfold insOf at h
  split at h
  · split at h
    · cases h; exact ⟨_, rfl, by assumption⟩
    · cases h
  · cases h
theorem s_eqv {g : G} (R : RelS K ca rho s H) (hx : VR K ca rho H x u) (hy : VR K ca rho H y v) (h : PB K ca xn (eqv g x y s) rho H Q E) : rEqD K u v H Q ∨ rOwn ca xn g K false u v H Q := by
  unfold eqv at h
  cases e : insOf s x with
  | none =>
    rw [e] at h
    refine .inl ?_
    have h : PB K ca xn (bnd (deepM x) (fun d => bnd (deepM y) fun e => ret (veq d e)) s) rho H Q E := h
    obtain ⟨d, i1, _, h⟩ := Post.deepM R hx h
    obtain ⟨e, i2, _, h⟩ := Post.deepM R hy h
    refine ⟨pd d, pd e, i1.dp, i2.dp, i1.shaped, i2.shaped, ?_⟩
    rw [eqv_pd]
    exact h.ret R
  | some p =>
    obtain ⟨c, fs⟩ := p
    rw [e] at h
    simp only at h
    cases e2 : (g.pg.cs c).bind (·.eqm) with
    | none => simp only [e2] at h; exact h.elim
    | some f =>
      simp only [e2] at h
      obtain ⟨i, rfl, k1⟩ := insOf_at e
      obtain ⟨a, rfl, g1⟩ := hx.ref_of
      have key : othB s c y = true ∧ PB K ca xn (bnd (noEx (g.call f [.ref i, y])) (fun v => match v with
        | .bl k => ret k
        | _ => PI.bad) s) rho H Q E := by
        unfold othB
        cases e3 : insOf s y with
        | none => simp only [e3] at h ⊢; exact Post.chk h
        | some q =>
          obtain ⟨c2, gs⟩ := q
          simp only [e3] at h ⊢
          exact Post.chk h
      obtain ⟨k2, hq⟩ := key
      refine .inr ⟨i, y, a, c, f, fs, rho, s, rfl, R, g1, hy, k1, k2, e2, hq.bnd.noEx.imp fun v rho1 s1 H1 x1 R1 q => ?_⟩
      cases v <;> first | exact q.elim | skip
      exact ⟨_, rfl, q.ret R1⟩
theorem s_eq {g : G} (R : RelS K ca rho s H) (hx : VR K ca rho H x u) (hy : VR K ca rho H y v) (h : PB K ca xn (cmpv g .eq x y s) rho H Q E) : rEqD K u v H Q ∨ rOwn ca xn g K false u v H Q := s_eqv R hx hy h
theorem s_ne {g : G} (R : RelS K ca rho s H) (hx : VR K ca rho H x u) (hy : VR K ca rho H y v) (h : PB K ca xn (cmpv g .ne x y s) rho H Q E) : rNeD K u v H Q ∨ rOwn ca xn g K true u v H Q := by
  have h : Post K ca xn (bnd (eqv g x y) (fun k => ret (!k)) s) rho H (fun a _ _ H' => Q (.bl a) H') E := h
  have h : PB K ca xn (eqv g x y s) rho H (fun w H' => ∃ b, w = .bl b ∧ Q (.bl (!b)) H') E := h.bnd.imp fun a rho' s' H' x' R' q => ⟨a, rfl, q.ret R'⟩
  rcases s_eqv R hx hy h with ⟨d, e, h1, h2, h3, h4, b, e1, e2⟩ | ⟨i, vb, a, c, f, fs, rho2, s2, h1, h2, h3, h4, h5, h6, h7, h9⟩
  · refine .inl ⟨d, e, h1, h2, h3, h4, ?_⟩
    rw [V.bl.inj e1]
    exact e2
  · refine .inr ⟨i, vb, a, c, f, fs, rho2, s2, h1, h2, h3, h4, h5, h6, h7, h9.imp fun v rho' s' H' x' R' q => ?_⟩
    obtain ⟨k, e1, b2, e2, e3⟩ := q
    have e2 : V.bl k = V.bl b2 := e2
    cases e2
    exact ⟨_, e1, e3⟩
/-! ### in -/
def rInT (K : PySem.W.Frag) (neg : Bool) : R2 := fun x y H Q => ∃ d ds, Dp K H x d ∧ Dp K H y (.tuple ds) ∧ SeqAt.shaped d = true ∧ SeqAt.shaped (.tuple ds) = true ∧ Q (.bl (if neg then !(ds.any fun z => PyData.eqv z d) else ds.any fun z => PyData.eqv z d)) H
theorem op_inT {X : Cx} (hu : X.A.units + 65 < cLine) : OpR X (compareOp .In) (rInT X.K false) := by
  intro pins s σ H x y v u Q I rx ry h
  obtain ⟨d, ds, hd, he, sd, se, q⟩ := h
  obtain ⟨as, r1⟩ := Dp.reads I d x v hd rx
  obtain ⟨bs, r2⟩ := Dp.reads I (.tuple ds) y u he ry
  exact SeqAt.in_tuple_reads r2 r1 (SeqAt.canLay_of_shaped se) (SeqAt.canLay_of_shaped sd) (room_in_shaped sd hu) ⟨.bl _, H, I, rfl, q⟩
theorem op_notInT {X : Cx} (hu : X.A.units + 65 < cLine) : OpR X (compareOp .NotIn) (rInT X.K true) := by
  intro pins s σ H x y v u Q I rx ry h
  obtain ⟨d, ds, hd, he, sd, se, q⟩ := h
  obtain ⟨as, r1⟩ := Dp.reads I d x v hd rx
  obtain ⟨bs, r2⟩ := Dp.reads I (.tuple ds) y u he ry
  exact SeqAt.notIn_tuple_reads r2 r1 (SeqAt.canLay_of_shaped se) (SeqAt.canLay_of_shaped sd) (room_in_shaped sd hu) ⟨.bl _, H, I, rfl, q⟩
def rInS (neg : Bool) : R2 := fun x y H Q => ∃ (c : Nat) (z : Str), x = .str ⟨#[c]⟩ ∧ y = .str z ∧ Q (.bl (if neg then !decide (c ∈ z.cps.toList) else decide (c ∈ z.cps.toList))) H
def rMem (K : PySem.W.Frag) (neg : Bool) : R2 := fun x y H Q => rInS neg x y H Q ∨ rInT K neg x y H Q ∨ (if neg then rNotInD K x y H Q else rInD K x y H Q)
theorem op_mem {X : Cx} (hu : X.A.units + 65 < cLine) : OpR X (compareOp .In) (rMem X.K false) := op_in_sign.or ((op_inT hu).or (op_inD hu))
theorem op_nmem {X : Cx} (hu : X.A.units + 65 < cLine) : OpR X (compareOp .NotIn) (rMem X.K true) := op_notIn_sign.or ((op_notInT hu).or (op_notInD hu))
theorem s_memT {g : G} {xs : List Val} (R : RelS K ca rho s H) (hx : VR K ca rho H x u) (hy : VR K ca rho H (.tup xs) v) {neg : Bool}
    (h : Post K ca xn (bnd (deepM x) (fun d => bnd (deepM (.tup xs)) fun t => (match t with | .tup ds => PI.ret (if neg then !memV d ds else memV d ds) | _ => PI.bad)) s) rho H (fun a _ _ H' => Q (.bl a) H') E) : rInT K neg u v H Q := by
  obtain ⟨d, i1, _, h⟩ := Post.deepM R hx h
  obtain ⟨e, i2, _, h⟩ := Post.deepM R hy h
  obtain ⟨ds, rfl⟩ : ∃ ds, e = .tup ds := by
    cases e <;> first | exact False.elim h | exact ⟨_, rfl⟩
  have hp := i2.dp
  have hs := i2.shaped
  simp only [pd] at hp hs
  refine ⟨pd d, pds ds, i1.dp, hp, i1.shaped, hs, ?_⟩
  rw [any_pds]
  exact h.ret R
theorem s_memL {g : G} {xs : List Val} {i : Nat} (e : s.st[i]? = some (.lst xs)) (R : RelS K ca rho s H) (hx : VR K ca rho H x u) (hy : VR K ca rho H (.ref i) v) {neg : Bool}
    (h : Post K ca xn (bnd (deepM x) (fun d => bnd (deepM (.tup xs)) fun t => (match t with | .tup ds => PI.ret (if neg then !memV d ds else memV d ds) | _ => PI.bad)) s) rho H (fun a _ _ H' => Q (.bl a) H') E) : if neg then rNotInD K u v H Q else rInD K u v H Q := by
  obtain ⟨d, i1, _, h⟩ := Post.deepM R hx h
  -- the list's own deep value
  obtain ⟨p, rfl, g1⟩ := hy.ref_of
  obtain ⟨vs, h1, h2⟩ := R.at_ i _ p e g1
  have h := h.bnd
  unfold PI.deepM at h
  cases q : deep s.st 60 (.tup xs) with
  | none => rw [q] at h; exact h.elim
  | some t =>
    rw [q] at h
    simp only [deep] at q
    cases q2 : xs.mapM (deep s.st 59) with
    | none => rw [q2] at q; cases q
    | some ds =>
      rw [q2] at q
      cases q
      obtain ⟨j1, j2, j3⟩ := deep_list (deep_ok R 59) xs ds vs q2 h2
      have hk := (h rho H Ext.rfl' R).ret R
      have sh : SeqAt.shaped (.list (pds ds)) = true := by
        unfold SeqAt.shaped
        rw [show (PyData.list (pds ds)).canLay0 = true by simp only [PyData.canLay0, j2], decide_eq_true (show (PyData.list (pds ds)).depth ≤ 64 by simp only [PyData.depth]; omega)]
        rfl
      cases neg with
      | true =>
        refine ⟨pd d, pds ds, i1.dp, .lst (SqL.of h1) j1, i1.shaped, sh, ?_⟩
        rw [any_pds]
        exact hk
      | false =>
        refine ⟨pd d, pds ds, i1.dp, .lst (SqL.of h1) j1, i1.shaped, sh, ?_⟩
        rw [any_pds]
        exact hk
theorem s_mem {g : G} (R : RelS K ca rho s H) (hx : VR K ca rho H x u) (hy : VR K ca rho H y v) (h : PB K ca xn (cmpv g .mem x y s) rho H Q E) : rMem K false u v H Q := by
  unfold cmpv at h
  simp only at h
  split at h
  · rename_i c z
    obtain ⟨rfl, _⟩ := hx.str_of
    obtain ⟨rfl, _⟩ := hy.str_of
    exact .inl ⟨c, _, rfl, rfl, h.ret R⟩
  · cases y with
    | tup xs => exact .inr (.inl (s_memT (g := g) (neg := false) R hx hy h))
    | ref i =>
      obtain ⟨p, e1, g1⟩ := hy.ref_of
      have h : Post K ca xn (bnd (bnd (look i) fun o => opt (lstOf o)) (fun xs => bnd (deepM x) fun d => bnd (deepM (.tup xs)) fun t => (match t with | .tup ds => PI.ret (memV d ds) | _ => PI.bad)) s) rho H (fun a _ _ H' => Q (.bl a) H') E := h
      rw [bnd_assoc] at h
      obtain ⟨o, q1, q2, h⟩ := Post.look R g1 h.bnd
      obtain ⟨xs, e, h⟩ := Post.opt R h.bnd
      cases o with
      | ins c fs => cases e
      | lst ys =>
        cases e
        exact .inr (.inr (s_memL (g := g) (neg := false) q2 R hx hy h))
    | _ => exact False.elim h
theorem s_nmem {g : G} (R : RelS K ca rho s H) (hx : VR K ca rho H x u) (hy : VR K ca rho H y v) (h : PB K ca xn (cmpv g .nmem x y s) rho H Q E) : rMem K true u v H Q := by
  unfold cmpv at h
  simp only at h
  split at h
  · rename_i c z
    obtain ⟨rfl, _⟩ := hx.str_of
    obtain ⟨rfl, _⟩ := hy.str_of
    exact .inl ⟨c, _, rfl, rfl, h.ret R⟩
  · cases y with
    | tup xs => exact .inr (.inl (s_memT (g := g) (neg := true) R hx hy h))
    | ref i =>
      obtain ⟨p, e1, g1⟩ := hy.ref_of
      have h : Post K ca xn (bnd (bnd (look i) fun o => opt (lstOf o)) (fun xs => bnd (deepM x) fun d => bnd (deepM (.tup xs)) fun t => (match t with | .tup ds => PI.ret (!memV d ds) | _ => PI.bad)) s) rho H (fun a _ _ H' => Q (.bl a) H') E := h
      rw [bnd_assoc] at h
      obtain ⟨o, q1, q2, h⟩ := Post.look R g1 h.bnd
      obtain ⟨xs, e, h⟩ := Post.opt R h.bnd
      cases o with
      | ins c fs => cases e
      | lst ys =>
        cases e
        exact .inr (.inr (s_memL (g := g) (neg := true) q2 R hx hy h))
    | _ => exact False.elim h
/-! ### is None, order -/
theorem s_isN {g : G} (R : RelS K ca rho s H) (hx : VR K ca rho H x u) (h : PB K ca xn (cmpv g .isN x y s) rho H Q E) : Q (.bl (decide (u = .non))) H := by
  have h := h.ret R
  cases x
  · cases hx.non_of; exact h
  · cases hx.bl_of; exact h
  · cases hx.int_of; exact h
  · obtain ⟨rfl, _⟩ := hx.str_of; exact h
  · obtain ⟨a, vs, rfl, _⟩ := hx.tup_of; exact h
  · obtain ⟨a, rfl, _⟩ := hx.ref_of; exact h
  · obtain ⟨a, vs, rfl, _⟩ := hx.lst_of; exact h
  · obtain ⟨a, o, rfl, _⟩ := hx.dct_of; exact h
theorem s_notN {g : G} (R : RelS K ca rho s H) (hx : VR K ca rho H x u) (h : PB K ca xn (cmpv g .notN x y s) rho H Q E) : Q (.bl (!decide (u = .non))) H := by
  have h := h.ret R
  cases x
  · cases hx.non_of; exact h
  · cases hx.bl_of; exact h
  · cases hx.int_of; exact h
  · obtain ⟨rfl, _⟩ := hx.str_of; exact h
  · obtain ⟨a, vs, rfl, _⟩ := hx.tup_of; exact h
  · obtain ⟨a, rfl, _⟩ := hx.ref_of; exact h
  · obtain ⟨a, vs, rfl, _⟩ := hx.lst_of; exact h
  · obtain ⟨a, o, rfl, _⟩ := hx.dct_of; exact h
def rOrd (f : Int → Int → Bool) (g : List Nat → List Nat → Bool) : R2 := fun x y H Q => (rI0 fun i j => .bl (f i j)) x y H Q ∨ ∃ i j, x = .str i ∧ y = .str j ∧ Q (.bl (g i.cps.toList j.cps.toList)) H
def fI : Cp → Int → Int → Bool
  | .lt => fun i j => decide (i < j) | .le => fun i j => decide (i ≤ j) | .gt => fun i j => decide (j < i) | _ => fun i j => decide (j ≤ i)
def fS : Cp → List Nat → List Nat → Bool
  | .lt => fun i j => decide (i < j) | .le => fun i j => !decide (j < i) | .gt => fun i j => decide (j < i) | _ => fun i j => !decide (i < j)
theorem s_ord {g : G} {o : Cp} (ho : o = .lt ∨ o = .le ∨ o = .gt ∨ o = .ge) (R : RelS K ca rho s H) (hx : VR K ca rho H x u) (hy : VR K ca rho H y v) (h : PB K ca xn (cmpv g o x y s) rho H Q E) : rOrd (fI o) (fS o) u v H Q := by
  rcases ho with rfl | rfl | rfl | rfl <;>
  · cases x <;> cases y <;> first | exact False.elim h | skip
    · cases hx.int_of; cases hy.int_of
      exact .inl ⟨_, _, rfl, rfl, h rho H Ext.rfl' R⟩
    · obtain ⟨rfl, _⟩ := hx.str_of
      obtain ⟨rfl, _⟩ := hy.str_of
      exact .inr ⟨_, _, rfl, rfl, h rho H Ext.rfl' R⟩
/-! ### all of them -/
def cper : Cp → CmpOp
  | .eq => .Eq | .ne => .NotEq | .lt => .Lt | .le => .LtE | .gt => .Gt | .ge => .GtE | .mem => .In | .nmem => .NotIn | .isN => .Is | .notN => .IsNot
def rCp (ca : Nat → Addr) (xn : Xn) (g : G) (K : PySem.W.Frag) : Cp → R2
  | .eq => fun x y H Q => rEqD K x y H Q ∨ rOwn ca xn g K false x y H Q | .ne => fun x y H Q => rNeD K x y H Q ∨ rOwn ca xn g K true x y H Q | .mem => rMem K false | .nmem => rMem K true
  | .isN => fun x y H Q => y = .non ∧ Q (.bl (decide (x = .non))) H | .notN => fun x y H Q => y = .non ∧ Q (.bl (!decide (x = .non))) H
  | .lt => rOrd (fI .lt) (fS .lt) | .le => rOrd (fI .le) (fS .le) | .gt => rOrd (fI .gt) (fS .gt) | .ge => rOrd (fI .ge) (fS .ge)
theorem cp_of {X : Cx} {g : G} (hu : X.A.units + 65 < cLine) (he : OpR X (compareOp .Eq) (rOwn ca xn g X.K false)) (hn : OpR X (compareOp .NotEq) (rOwn ca xn g X.K true)) : ∀ o : Cp, OpR X (compareOp (cper o)) (rCp ca xn g X.K o)
  | .eq => (op_eqD (by omega)).or he | .ne => (op_neD (by omega)).or hn | .mem => op_mem hu | .nmem => op_nmem hu | .isN => op_isN | .notN => op_notN
  | .lt => op_lt.or op_lt_str | .le => op_le.or op_le_str | .gt => op_gt.or op_gt_str | .ge => op_ge.or op_ge_str
theorem s_cmp {g : G} : ∀ (o : Cp), (o = .isN ∨ o = .notN → y = .non) → RelS K ca rho s H → VR K ca rho H x u → VR K ca rho H y v → PB K ca xn (cmpv g o x y s) rho H Q E → rCp ca xn g K o u v H Q
  | .eq, _, R, hx, hy, h => s_eq R hx hy h
  | .ne, _, R, hx, hy, h => s_ne R hx hy h
  | .mem, _, R, hx, hy, h => s_mem R hx hy h
  | .nmem, _, R, hx, hy, h => s_nmem R hx hy h
  | .isN, n, R, hx, hy, h => by
    have e := n (.inl rfl)
    subst e
    exact ⟨hy.non_of, s_isN R hx h⟩
  | .notN, n, R, hx, hy, h => by
    have e := n (.inr rfl)
    subst e
    exact ⟨hy.non_of, s_notN R hx h⟩
  | .lt, _, R, hx, hy, h => s_ord (.inl rfl) R hx hy h
  | .le, _, R, hx, hy, h => s_ord (.inr (.inl rfl)) R hx hy h
  | .gt, _, R, hx, hy, h => s_ord (.inr (.inr (.inl rfl))) R hx hy h
  | .ge, _, R, hx, hy, h => s_ord (.inr (.inr (.inr rfl))) R hx hy h
end
end PI
end

section
set_option Elab.async false
set_option linter.all false
set_option maxRecDepth 100000
/-! PyD0: deep values with dicts in them. -/
namespace PI
open PySem PySem.Spec PyProof PyProof.Rows L2 TL
def dKs (kvs : List (Tx × Int)) : List (Key × V) := kvs.map fun p => (.inr (toS p.1), .int p.2)
def dDs (kvs : List (Tx × Int)) : List (PyData × PyData) := kvs.map fun p => (.str ⟨p.1.toArray⟩, .int p.2)
mutual
inductive DpX (H : Hp) : V → PyData → Prop
  | non : DpX H .non .none
  | bl (b : Bool) : DpX H (.bl b) (.bool b)
  | int (i : Int) : DpX H (.int i) (.int i)
  | str (x : Str) : DpX H (.str x) (.str x)
  | lst {a : Addr} {xs : List V} {ds : List PyData} : H a = some (.lst xs) → DpXs H xs ds → DpX H (.ref a) (.list ds)
  | tup {a : Addr} {xs : List V} {ds : List PyData} : TupK H a xs → DpXs H xs ds → DpX H (.ref a) (.tuple ds)
  | dct {a : Addr} {o : Obj} {kvs : List (Tx × Int)} : H a = some (.frz o (.dK (dKs kvs))) → DpX H (.ref a) (.dict (dDs kvs))
inductive DpXs (H : Hp) : List V → List PyData → Prop
  | nil : DpXs H [] []
  | cons {v : V} {vs : List V} {d : PyData} {ds : List PyData} : DpX H v d → DpXs H vs ds → DpXs H (v :: vs) (d :: ds)
end
theorem keys_read {P : Program} {w : World} {h : Heap} : ∀ {kvs : List (Tx × Int)} {es : List DictEntry} {vs : List (Key × Value)}, KV (dKs kvs) vs → Pairs (mixKind P w) es vs →
    (∃ as, ReadsAll h (es.map (·.key)) ((dDs kvs).map (·.1)) as ∧ as = []) ∧ ∃ as, ReadsAll h (es.map (·.val)) ((dDs kvs).map (·.2)) as ∧ as = []
  | [], _, _, r, q => by
    cases r
    cases q
    exact ⟨⟨_, .nil, rfl⟩, _, .nil, rfl⟩
  | p :: kvs, _, _, r, q => by
    cases r with
    | @cons a b as bs r1 r2 =>
      cases q with
      | @cons e kv es vs q1 q2 q3 =>
        obtain ⟨⟨as, h1, rfl⟩, bs, h2, rfl⟩ := keys_read (h := h) r2 q3
        obtain ⟨e1, t, e2⟩ := r1
        obtain ⟨eh, ek, ev⟩ := e
        have e1 : (Sum.inr (toS p.1) : Key) = b.1 := e1
        have e2 : b.2 = .int p.2 t := e2
        have q2 : ev = b.2 := q2
        have q1 : (mixKind P w).is b.1 ek = true := q1
        rw [← e1] at q1
        rw [e2] at q2
        rw [mixKind_is] at q1
        obtain ⟨u, rfl⟩ : ∃ u, ek = .str (toS p.1) u := by
          rcases keyIs_shape q1 with ⟨i, u, z, _⟩ | ⟨x, u, z, z2⟩
          · cases z
          · cases z
            exact ⟨u, z2⟩
        subst q2
        refine ⟨⟨[] ++ [], .cons (Reads.str _ u) h1, rfl⟩, [] ++ [], .cons (show Reads h b.2 _ _ by rw [e2]; exact Reads.int p.2 t) h2, rfl⟩
section
variable {X : Cx} {pins : List (Addr × Obj)} {sg : L2.St} {H : Hp} {s : Shared}
mutual
theorem DpX.reads (I : Inv X pins sg H s) : ∀ (d : PyData) (v : V) (u : Value), DpX H v d → RelV v u → ∃ as, Reads s.heap u d as ∧ ∀ x ∈ as, ∃ o, H x = some o
  | .none, _, _, h, r => by
    cases h
    cases r
    exact ⟨_, Reads.none, by simp⟩
  | .bool b, _, _, h, r => by
    cases h
    cases r
    exact ⟨_, Reads.bool b, by simp⟩
  | .int i, _, _, h, r => by
    cases h
    obtain ⟨t, rfl⟩ := r
    exact ⟨_, Reads.int i t, by simp⟩
  | .str x, _, _, h, r => by
    cases h
    obtain ⟨t, rfl⟩ := r
    exact ⟨_, Reads.str x t, by simp⟩
  | .list ds, _, _, h, r => by
    cases h with
    | lst hs ha =>
      cases r
      obtain ⟨its, rv, ⟨o, n, ho, hc, _, hd⟩, _⟩ := I.list (SqL.of hs)
      obtain ⟨as, hr, hk⟩ := DpXs.reads I ds _ its ha rv
      refine ⟨_, Reads.list ho hc hd hr, fun x m => ?_⟩
      rcases List.mem_cons.mp m with rfl | m
      · exact ⟨_, hs⟩
      · exact hk x m
  | .tuple ds, _, _, h, r => by
    cases h with
    | tup hs ha =>
      cases r
      obtain ⟨its, rv, ⟨o, ho, hc, n, hd⟩, _⟩ := I.tuple hs.sq
      obtain ⟨as, hr, hk⟩ := DpXs.reads I ds _ its ha rv
      exact ⟨_, Reads.tuple ho hc hd hr, hk⟩
  | .dict _, _, _, h, r => by
    cases h with
    | @dct a o kvs hs =>
      cases r
      obtain ⟨ho, _, _, vs, kv, od, es, ep, h1, hx, h2, _, hp, _⟩ := I.hok _ _ hs
      obtain ⟨⟨as, r1, rfl⟩, bs, r2, rfl⟩ := keys_read (h := s.heap) kv hp
      refine ⟨_, Reads.dict h1 hx.1 h2 r1 r2, fun x m => ?_⟩
      simp at m
      subst m
      exact ⟨_, hs⟩
theorem DpXs.reads (I : Inv X pins sg H s) : ∀ (ds : List PyData) (vs : List V) (us : List Value), DpXs H vs ds → Vals vs us → ∃ as, ReadsAll s.heap us ds as ∧ ∀ x ∈ as, ∃ o, H x = some o
  | [], _, _, h, r => by
    cases h
    cases r
    exact ⟨_, ReadsAll.nil, by simp⟩
  | d :: ds, _, _, h, r => by
    cases h with
    | cons h1 h2 =>
      cases r with
      | cons r1 r2 =>
        obtain ⟨as, q1, k1⟩ := DpX.reads I d _ _ h1 r1
        obtain ⟨bs, q2, k2⟩ := DpXs.reads I ds _ _ h2 r2
        refine ⟨_, ReadsAll.cons q1 q2, fun x m => ?_⟩
        rcases List.mem_append.mp m with m | m
        · exact k1 x m
        · exact k2 x m
end
theorem noMods (hk : (X.K.lookup sysModules).isSome = true) (I : Inv X pins sg H s) {o : HO} : H sysModules ≠ some o := fun e => by
  obtain ⟨u, hu⟩ := Option.isSome_iff_exists.mp hk
  have := (I.bs _ _ (I.mod.kin _ _ hu)).2
  rw [e] at this
  cases this
end
/-! ### what the interpreter's deep values are -/
section
variable {K : PySem.W.Frag} {ca : Nat → Addr} {xn : Xn} {rho : List Addr} {H : Hp} {s : S} {E : Value → Option Addr → Hp → Prop} {x : Val} {u : V}
theorem deepR_list {n : Nat} (ih : ∀ (v d : Val) (u : V), deepR s.st n v = some d → VR K ca rho H v u → DpX H u (pd d) ∧ (pd d).depth ≤ n + 1) :
    ∀ (xs ys : List Val) (vs : List V), xs.mapM (deepR s.st n) = some ys → VRs K ca rho H xs vs → DpXs H vs (pds ys) ∧ PyData.depthAll (pds ys) ≤ n + 1
  | [], ys, vs, h, r => by
    rw [mapM_nil] at h
    cases h
    simp only [VRs] at r
    subst r
    exact ⟨.nil, Nat.zero_le _⟩
  | x :: q, ys, vs, h, r => by
    obtain ⟨y, p, rfl, h1, h2⟩ := mapM_cons h
    simp only [VRs] at r
    obtain ⟨w, ws, rfl, r1, r2⟩ := r
    obtain ⟨i1, i3⟩ := ih x y w h1 r1
    obtain ⟨j1, j3⟩ := deepR_list ih q p ws h2 r2
    refine ⟨?_, ?_⟩
    · simp only [pds]; exact .cons i1 j1
    · simp only [pds, PyData.depthAll]; omega
theorem dct_depth : ∀ kvs : List (Tx × Int), (PyData.dict (dDs kvs)).depth ≤ 1 := by
  intro kvs
  have : ∀ l : List (Tx × Int), PyData.depthKv (dDs l) = 0 := by
    intro l
    induction l with
    | nil => rfl
    | cons p r ih => simp [dDs, PyData.depthKv, PyData.depth] at ih ⊢; exact ih
  simp only [PyData.depth, this]
  omega
theorem deepR_ok (R : RelS K ca rho s H) : ∀ (n : Nat) (v d : Val) (u : V), deepR s.st n v = some d → VR K ca rho H v u → DpX H u (pd d) ∧ (pd d).depth ≤ n + 1
  | n, .non, d, u, h, r => by
    cases n <;> (simp only [deepR] at h; cases h; cases r.non_of; exact ⟨.non, Nat.zero_le _⟩)
  | n, .bl b, d, u, h, r => by
    cases n <;> (simp only [deepR] at h; cases h; cases r.bl_of; exact ⟨.bl b, Nat.zero_le _⟩)
  | n, .int i, d, u, h, r => by
    cases n <;> (simp only [deepR] at h; cases h; cases r.int_of; exact ⟨.int i, Nat.zero_le _⟩)
  | n, .str z, d, u, h, r => by
    obtain ⟨rfl, k⟩ := r.str_of
    cases n <;> (simp only [deepR] at h; cases h; exact ⟨.str _, Nat.zero_le _⟩)
  | n, .dct kvs, d, u, h, r => by
    obtain ⟨a, o, rfl, q⟩ := r.dct_of
    have e : d = .dct kvs := by cases n <;> (simp only [deepR] at h; exact (Option.some.inj h).symm)
    subst e
    refine ⟨?_, Nat.le_trans (dct_depth kvs) (by omega)⟩
    simp only [pd]
    exact .dct q
  | n + 1, .tup xs, d, u, h, r => by
    simp only [deepR] at h
    obtain ⟨a, vs, rfl, q, r⟩ := r.tup_of
    cases e : xs.mapM (deepR s.st n) with
    | none => rw [e] at h; cases h
    | some ys =>
      rw [e] at h
      cases h
      obtain ⟨j1, j3⟩ := deepR_list (deepR_ok R n) xs ys vs e r
      refine ⟨?_, ?_⟩
      · simp only [pd]; exact .tup q j1
      · simp only [pd, PyData.depth]; omega
  | n + 1, .ref i, d, u, h, r => by
    simp only [deepR] at h
    obtain ⟨a, rfl, g⟩ := r.ref_of
    cases e : s.st[i]? with
    | none => rw [e] at h; cases h
    | some o =>
      rw [e] at h
      cases o with
      | ins c fs => cases h
      | lst xs =>
        cases e2 : xs.mapM (deepR s.st n) with
        | none => simp only [e2] at h; cases h
        | some ys =>
          simp only [e2] at h
          cases h
          obtain ⟨vs, h1, h2⟩ := R.at_ i _ a e g
          obtain ⟨j1, j3⟩ := deepR_list (deepR_ok R n) xs ys vs e2 h2
          refine ⟨?_, ?_⟩
          · simp only [pd]; exact .lst h1 j1
          · simp only [pd, PyData.depth]; omega
  | 0, .tup xs, d, u, h, r => by simp only [deepR] at h; cases h
  | 0, .ref i, d, u, h, r => by simp only [deepR] at h; cases h
  | 0, .lst i, d, u, h, r => by simp only [deepR] at h; cases h
  | n + 1, .lst i, d, u, h, r => by simp only [deepR] at h; cases h
theorem Post.deepR {α : Type} {f : Val → M α} {Q : α → List Addr → S → Hp → Prop} (R : RelS K ca rho s H) (hx : VR K ca rho H x u) (h : Post K ca xn (PI.bnd (PI.deepRM x) f s) rho H Q E) :
    ∃ d, DpX H u (pd d) ∧ (pd d).depth ≤ 61 ∧ PI.deepR s.st 60 x = some d ∧ Post K ca xn (f d s) rho H Q E := by
  have h := h.bnd
  unfold PI.deepRM at h
  cases e : PI.deepR s.st 60 x with
  | none => rw [e] at h; exact h.elim
  | some d =>
    rw [e] at h
    obtain ⟨h1, h2⟩ := deepR_ok R 60 x d u e hx
    exact ⟨d, h1, h2, rfl, h rho H Ext.rfl' R⟩
end
end PI
end

section
set_option Elab.async false
set_option linter.all false
set_option maxRecDepth 100000
/-! PyP0: sorted of pairs of a text and a number. -/
namespace PI
open PySem PySem.Spec PyProof.Rows L2 TL PyProof.Rows.G
def shT : Nat → Bool := fun i => i == 0
/-- the pair's key -/
def pk (p : Tx × Int) : List (Int ⊕ List Nat) := [.inr p.1, .inl p.2]
theorem leP_of {p q : Tx × Int} (h : (listOrd itemOrd).blt (pk q) (pk p) = false) : leP p q = true := by
  have h : (decide (q.1 < p.1) || (!decide (p.1 < q.1) && (decide (q.2 < p.2) || (!decide (p.2 < q.2) && false)))) = false := h
  simp only [Bool.and_false, Bool.or_false, Bool.or_eq_false_iff, Bool.and_eq_false_iff, Bool.not_eq_false', decide_eq_true_eq, decide_eq_false_iff_not] at h
  unfold leP
  simp only [Bool.or_eq_true, Bool.and_eq_true, decide_eq_true_eq]
  rcases h.2 with z | z
  · exact .inl z
  · by_cases e : p.1 < q.1
    · exact .inl e
    · exact .inr ⟨List.le_antisymm h.1 e, by omega⟩
def rSortedT (K : PySem.W.Frag) : List V → Hp → VK → Prop := fun us H Q => ∃ (a : Addr) (xs : List V) (ks : V → Tx × Int), us = [.ref a] ∧ SqL K H a xs ∧ (∀ x ∈ xs, ∃ t, x = V.ref t ∧ TupK H t [.str (toS (ks x).1), .int (ks x).2]) ∧
  ∀ ys p, ys.Perm xs → ys.Pairwise (fun x y => leP (ks x) (ks y) = true) → H p = none → Q (.ref p) (upd H p (.lst ys))
theorem tups_ex {h : Heap} {shape : Nat → Bool} : ∀ {vs : List Value}, (∀ v ∈ vs, ∃ f, TupOf h shape v f) → ∃ fs, TupsOf h shape vs fs
  | [], _ => ⟨[], .nil⟩
  | v :: r, k => by
    obtain ⟨f, hf⟩ := k v (List.mem_cons_self ..)
    obtain ⟨fs, hfs⟩ := tups_ex (vs := r) fun x m => k x (List.mem_cons_of_mem _ m)
    exact ⟨f :: fs, .cons hf hfs⟩
theorem refs_vals : ∀ {us : List Value}, (∀ u ∈ us, ∃ a, u = Value.ref a) → Vals (us.map backV) us
  | [], _ => .nil
  | u :: r, h => by
    obtain ⟨a, e⟩ := h u (List.mem_cons_self ..)
    subst e
    exact .cons rfl (refs_vals fun x m => h x (List.mem_cons_of_mem _ m))
theorem cr_sortedT {X : Cx} : CallR X (.builtin "sorted") (rSortedT X.K) := by
  intro pins s sg H vs us Q I r h
  obtain ⟨a, xs, ks, rfl, hs, hx, q⟩ := h
  obtain ⟨its, rv, hl, hz⟩ := I.list hs
  obtain ⟨u, rfl, ru⟩ := vals1 r
  obtain rfl : u = Value.ref a := ru
  obtain ⟨e1, e2⟩ := refs_back rv fun x m => by
    obtain ⟨t, e, _⟩ := hx x m
    exact ⟨t, e⟩
  have at_ : ∀ v ∈ its, ∃ t o t1 t2 n, v = .ref t ∧ s.heap.get? t = some o ∧ o.cls = .type "tuple" ∧ o.data = .seq (#[Value.str (toS (ks (backV v)).1) t1, Value.int (ks (backV v)).2 t2] : Array Value) n := fun v hv => by
    obtain ⟨t, rfl⟩ := e2 v hv
    have hm : V.ref t ∈ xs := by rw [e1]; exact List.mem_map.mpr ⟨_, hv, rfl⟩
    obtain ⟨t', e, o, _, ht⟩ := hx _ hm
    cases e
    obtain ⟨_, _, its2, r2, o2, ho, hc, n, hd⟩ := I.hok _ _ ht
    obtain ⟨u1, u2, rfl, ri, rj⟩ := vals2 r2
    obtain ⟨t1, rfl⟩ := ri
    obtain ⟨t2, rfl⟩ := rj
    exact ⟨t, o2, t1, t2, n, rfl, ho, hc, hd⟩
  have key : ∀ v ∈ its, tupKeyC s.heap shT v = some (pk (ks (backV v))) := fun v hv => by
    obtain ⟨t, o, t1, t2, n, rfl, ho, hc, hd⟩ := at_ v hv
    exact tupKeyC_of ho hc hd rfl
  obtain ⟨fs, hfs⟩ := tups_ex (h := s.heap) (shape := shT) (vs := its) fun v hv => by
    obtain ⟨t, o, t1, t2, n, rfl, ho, hc, hd⟩ := at_ v hv
    exact ⟨_, t, o, _, n, rfl, ho, hc, hd, rfl, (fun z => nomatch z), fun _ => ⟨_, _, rfl⟩⟩
  refine sorted_tups (shape := shT) hl.isList hfs (fun v hv => ⟨_, key v hv⟩) (by rw [← rv.length]; exact hz) fun st' hp hso _ => ?_
  have pl : ((arrOf st').toList).Perm (its.zip its) := by rw [← pairsOf_toList]; exact Array.perm_iff_toList_perm.mp hp
  have mem : ∀ p ∈ (arrOf st').toList, p.1 = p.2 ∧ p.1 ∈ its := fun p m => mem_zip_self (pl.mem_iff.mp m)
  have po : (((arrOf st').map (·.2)).toList).Perm its := by
    rw [Array.toList_map]
    have := pl.map Prod.snd
    rw [List.map_snd_zip (Nat.le_refl _)] at this
    exact this
  obtain ⟨out, hout⟩ : ∃ out, out = ((arrOf st').map (·.2)).toList := ⟨_, rfl⟩
  rw [← hout] at po
  obtain ⟨e, he⟩ := sortedAll_at s.heap its ((arrOf st').map (·.2))
  have rf : ∀ u ∈ out, ∃ a, u = Value.ref a := fun u m => e2 u (po.mem_iff.mp m)
  have hlen : (out.map backV).length ≤ sizeLine := by rw [List.length_map, po.length_eq, ← rv.length]; exact hz
  refine ⟨.ref (s.heap.objs.size + 1), _, I.laid (t' := s.toks) (a := s.heap.objs.size + 1) (o := .lst (out.map backV)) (fun b o hb => sortedAll_old hb) (Nat.le_succ _) ⟨hlen, out, e, refs_vals rf, ?_⟩, rfl, q _ _ ?_ ?_ (I.hok.fresh (Nat.le_succ _))⟩
  · rw [he, hout]
  · rw [e1]
    exact po.map _
  · rw [List.pairwise_map, List.pairwise_iff_getElem]
    intro i j hi hj hij
    have hi' : i < (arrOf st').size := by rw [hout] at hi; simpa using hi
    have hj' : j < (arrOf st').size := by rw [hout] at hj; simpa using hj
    have z := hso i j (Nat.le_of_lt hij) (by rw [← hp.size_eq]; exact hj')
    have kk : ∀ (n : Nat) (hn : n < (arrOf st').size) (hn2 : n < out.length), KK (tupKindC s.heap shT) (arrOf st') n = pk (ks (backV out[n])) := fun n hn hn2 => by
      have hm : (arrOf st')[n] ∈ (arrOf st').toList := by simp
      obtain ⟨m1, m2⟩ := mem _ hm
      have e3 : out[n] = (arrOf st')[n].1 := by
        simp only [hout, Array.getElem_toList, Array.getElem_map]
        exact m1.symm
      unfold KK
      rw [Array.getElem?_eq_getElem hn]
      show (tupKeyC s.heap shT (arrOf st')[n].1).getD [] = _
      rw [key _ m2, e3]
      rfl
    rw [kk i hi' hi, kk j hj' hj] at z
    exact leP_of z
theorem leP_iff {a b : Tx × Int} : leP a b = true ↔ a.1 < b.1 ∨ (a.1 = b.1 ∧ a.2 ≤ b.2) := by
  unfold leP
  simp
theorem leP_tot {a b : Tx × Int} (h : leP a b = false) : leP b a = true := by
  have h2 : ¬ (a.1 < b.1 ∨ (a.1 = b.1 ∧ a.2 ≤ b.2)) := fun z => by rw [leP_iff.mpr z] at h; cases h
  rw [leP_iff]
  by_cases e : b.1 < a.1
  · exact .inl e
  · have e2 : b.1 = a.1 := List.le_antisymm (fun z => h2 (.inl z)) e
    exact .inr ⟨e2, by
      have : ¬ a.2 ≤ b.2 := fun z => h2 (.inr ⟨e2.symm, z⟩)
      omega⟩
theorem leP_trans {a b c : Tx × Int} (h1 : leP a b = true) (h2 : leP b c = true) : leP a c = true := by
  rw [leP_iff] at *
  rcases h1 with h1 | ⟨h1, k1⟩ <;> rcases h2 with h2 | ⟨h2, k2⟩
  · exact .inl (List.lt_trans h1 h2)
  · exact .inl (by rw [← h2]; exact h1)
  · exact .inl (by rw [h1]; exact h2)
  · exact .inr ⟨h1.trans h2, Int.le_trans k1 k2⟩
theorem leP_anti {a b : Tx × Int} (h1 : leP a b = true) (h2 : leP b a = true) : a = b := by
  rw [leP_iff] at *
  rcases h1 with h1 | ⟨h1, k1⟩ <;> rcases h2 with h2 | ⟨h2, k2⟩
  · exact absurd (List.lt_trans h1 h2) (List.lt_irrefl _)
  · rw [h2] at h1; exact absurd h1 (List.lt_irrefl _)
  · rw [h1] at h2; exact absurd h2 (List.lt_irrefl _)
  · exact Prod.ext h1 (by omega)
theorem insP_perm {x : Tx × Int} : ∀ {l : List (Tx × Int)}, (insP x l).Perm (x :: l)
  | [] => .refl _
  | y :: r => by
    unfold insP
    split
    · exact .refl _
    · exact ((insP_perm (l := r)).cons y).trans (.swap x y r)
theorem sortP_perm : ∀ {l : List (Tx × Int)}, (sortP l).Perm l
  | [] => .refl _
  | x :: r => (insP_perm (l := sortP r)).trans ((sortP_perm (l := r)).cons x)
theorem insP_up {x : Tx × Int} : ∀ {l : List (Tx × Int)}, l.Pairwise (fun a b => leP a b = true) → (insP x l).Pairwise (fun a b => leP a b = true)
  | [], _ => by simp [insP]
  | y :: r, h => by
    obtain ⟨h1, h2⟩ := List.pairwise_cons.mp h
    unfold insP
    split
    · rename_i e
      refine List.pairwise_cons.mpr ⟨fun z m => ?_, h⟩
      rcases List.mem_cons.mp m with e2 | e2
      · rw [e2]; exact e
      · exact leP_trans e (h1 z e2)
    · rename_i e
      refine List.pairwise_cons.mpr ⟨fun z m => ?_, insP_up h2⟩
      rcases List.mem_cons.mp (insP_perm.mem_iff.mp m) with e2 | e2
      · rw [e2]; exact leP_tot e
      · exact h1 z e2
theorem sortP_up : ∀ {l : List (Tx × Int)}, (sortP l).Pairwise (fun a b => leP a b = true)
  | [] => List.Pairwise.nil
  | x :: r => insP_up (l := sortP r) sortP_up
theorem sortP_one {l m : List (Tx × Int)} (hp : l.Perm m) (h : l.Pairwise (fun a b => leP a b = true)) : l = sortP m :=
  (hp.trans sortP_perm.symm).eq_of_pairwise (fun _ _ _ _ x y => leP_anti x y) h sortP_up
section
variable {K : PySem.W.Frag} {ca : Nat → Addr} {rho : List Addr} {H : Hp}
/-- the pair that stands at a tuple of ours -/
def prAt (H : Hp) : V → Tx × Int
  | .ref t => (match H t with
    | some (.frz _ (.tup [.str a, .int i])) => (tl a, i)
    | _ => ([], 0))
  | _ => ([], 0)
theorem prs_of : ∀ {xs : List Val} {ps : List (Tx × Int)} {ws : List V}, prsOf xs = some ps → VRs K ca rho H xs ws → (∀ x ∈ ws, ∃ t, x = V.ref t ∧ TupK H t [.str (toS (prAt H x).1), .int (prAt H x).2]) ∧ (∀ x ∈ ws, okT (prAt H x).1 = true) ∧ ws.map (prAt H) = ps
  | [], ps, ws, h, r => by
    cases h
    simp only [VRs] at r
    rw [r]
    exact ⟨fun x m => (nomatch m), fun x m => (nomatch m), rfl⟩
  | x :: q, ps, ws, h, r => by
    unfold prsOf at h
    split at h
    · cases ‹_ :: _ = []›
    · rename_i s i r2 e
      cases e
      cases e2 : prsOf q with
      | none => rw [e2] at h; cases h
      | some p =>
        rw [e2] at h
        cases h
        simp only [VRs] at r
        obtain ⟨u, w, rfl, h1, h2⟩ := r
        simp only [VR, VRs] at h1
        obtain ⟨t, vs, rfl, ⟨o, ho, hT⟩, u1, q1, rfl, ⟨rfl, k1⟩, u2, q2, rfl, rfl, rfl⟩ := h1
        obtain ⟨z1, z2, z3⟩ := prs_of e2 h2
        have e3 : prAt H (.ref t) = (s, i) := by
          simp only [prAt, hT]
          rfl
        refine ⟨fun x m => ?_, fun x m => ?_, ?_⟩
        · rcases List.mem_cons.mp m with rfl | m
          · rw [e3]
            exact ⟨t, rfl, o, ho, hT⟩
          · exact z1 x m
        · rcases List.mem_cons.mp m with rfl | m
          · rw [e3]
            exact k1
          · exact z2 x m
        · rw [List.map_cons, e3, z3]
    · cases h
theorem prs_back {ys : List V} : (∀ x ∈ ys, ∃ t, x = V.ref t ∧ TupK H t [.str (toS (prAt H x).1), .int (prAt H x).2]) → (∀ x ∈ ys, okT (prAt H x).1 = true) → VRs K ca rho H ((ys.map (prAt H)).map prV) ys := by
  induction ys with
  | nil => intro _ _; simp [VRs]
  | cons y r ih =>
    intro h k
    obtain ⟨t, e, T⟩ := h y (List.mem_cons_self ..)
    have ky := k y (List.mem_cons_self ..)
    simp only [List.map_cons, VRs]
    refine ⟨y, r, rfl, ?_, ih (fun x m => h x (List.mem_cons_of_mem _ m)) fun x m => k x (List.mem_cons_of_mem _ m)⟩
    simp only [prV, VR, VRs]
    exact ⟨t, _, e, T, _, _, rfl, ⟨rfl, ky⟩, _, _, rfl, rfl, rfl⟩
end
end PI
end

section
set_option Elab.async false
set_option linter.all false
set_option maxRecDepth 100000
/-! PyS3: built-in functions. -/
namespace PI
open PySem PySem.Spec PyProof.Rows L2 TL
theorem tl_ofInt (i : Int) : toS (numT i) = (Str.ofString (toString i)) := by
  apply ext_tl
  rw [tl_ofString]
  rfl
theorem char_lt (c : Char) : c.toNat < 1114112 := by
  have h := c.valid
  simp only [UInt32.isValidChar, Nat.isValidChar] at h
  have e : c.toNat = c.val.toNat := rfl
  omega
theorem okT_num {i : Int} (h : (numT i).length ≤ lim) : okT (numT i) = true := okT_iff.mpr ⟨fun c m => by
  obtain ⟨d, _, rfl⟩ := List.mem_map.mp m
  exact char_lt d, h⟩
theorem digit_val : ∀ c : Nat, 48 ≤ c → c ≤ 57 → intText? (toS [c]) = some ((c : Int) - 48) := by
  intro c h1 h2
  have : c = 48 ∨ c = 49 ∨ c = 50 ∨ c = 51 ∨ c = 52 ∨ c = 53 ∨ c = 54 ∨ c = 55 ∨ c = 56 ∨ c = 57 := by omega
  rcases this with rfl | rfl | rfl | rfl | rfl | rfl | rfl | rfl | rfl | rfl <;> decide +kernel
section
variable {K : PySem.W.Frag} {ca : Nat → Addr} {xn : Xn} {rho : List Addr} {H : Hp} {s : S} {Q : VK} {E : Value → Option Addr → Hp → Prop} {x y : Val} {u v : V}
theorem VRs.one_of {vs : List V} (h : VRs K ca rho H [x] vs) : ∃ u, vs = [u] ∧ VR K ca rho H x u := by
  simp only [VRs] at h
  obtain ⟨u, q, e, h1, h2⟩ := h
  subst h2
  exact ⟨u, e, h1⟩
theorem VRs.two_of {vs : List V} (h : VRs K ca rho H [x, y] vs) : ∃ u v, vs = [u, v] ∧ VR K ca rho H x u ∧ VR K ca rho H y v := by
  simp only [VRs] at h
  obtain ⟨u, q, e, h1, w, p, e2, h2, h3⟩ := h
  subst h3 e2
  exact ⟨u, w, e, h1, h2⟩
theorem VRs.nil_of {vs : List V} (h : VRs K ca rho H [] vs) : vs = [] := by simpa [VRs] using h
theorem ints_of : ∀ {xs : List Val} {ns : List Int} {vs : List V}, intsOf xs = some ns → VRs K ca rho H xs vs → vs = ns.map V.int
  | [], ns, vs, h, r => by
    cases h
    rw [r.nil_of]; rfl
  | x :: q, ns, vs, h, r => by
    cases x <;> first | cases h; done | skip
    simp only [intsOf] at h
    cases e : intsOf q with
    | none => rw [e] at h; cases h
    | some p =>
      rw [e] at h
      cases h
      obtain ⟨u, w, rfl, h1, h2⟩ := VRs.cons_iff.mp r
      rw [h1.int_of, ints_of e h2]; rfl
theorem bls_of : ∀ {xs : List Val} {ns : List Bool} {vs : List V}, blsOf xs = some ns → VRs K ca rho H xs vs → vs = ns.map V.bl
  | [], ns, vs, h, r => by
    cases h
    rw [r.nil_of]; rfl
  | x :: q, ns, vs, h, r => by
    cases x <;> first | cases h; done | skip
    simp only [blsOf] at h
    cases e : blsOf q with
    | none => rw [e] at h; cases h
    | some p =>
      rw [e] at h
      cases h
      obtain ⟨u, w, rfl, h1, h2⟩ := VRs.cons_iff.mp r
      rw [h1.bl_of, bls_of e h2]; rfl
theorem strs_of : ∀ {xs : List Val} {ns : List Tx} {vs : List V}, strsOf xs = some ns → VRs K ca rho H xs vs → vs = ns.map (fun z => V.str (toS z)) ∧ ∀ z ∈ ns, okT z = true
  | [], ns, vs, h, r => by
    cases h
    rw [r.nil_of]; exact ⟨rfl, fun z m => by cases m⟩
  | x :: q, ns, vs, h, r => by
    cases x <;> first | cases h; done | skip
    simp only [strsOf] at h
    cases e : strsOf q with
    | none => rw [e] at h; cases h
    | some p =>
      rw [e] at h
      cases h
      obtain ⟨u, w, rfl, h1, h2⟩ := VRs.cons_iff.mp r
      obtain ⟨rfl, k⟩ := h1.str_of
      obtain ⟨h3, h4⟩ := strs_of e h2
      refine ⟨by rw [h3]; rfl, fun z m => ?_⟩
      rcases List.mem_cons.mp m with m | m
      · rw [m]; exact k
      · exact h4 z m
theorem strs_back : ∀ {ns : List Tx}, (∀ z ∈ ns, okT z = true) → VRs K ca rho H (ns.map .str) (ns.map (fun z => V.str (toS z)))
  | [], _ => by simp [VRs]
  | z :: r, h => by
    simp only [List.map_cons, VRs]
    exact ⟨_, _, rfl, by simp [VR, h z List.mem_cons_self], strs_back fun w m => h w (List.mem_cons_of_mem _ m)⟩
/-! ### one by one -/
theorem maxI_spec : ∀ {ns : List Int} {m : Int}, maxI ns = some m → 0 < ns.length ∧ m ∈ ns ∧ ∀ y ∈ ns, y ≤ m
  | [], _, h => by cases h
  | x :: r, m, h => by
    refine ⟨Nat.succ_pos _, ?_⟩
    have key : ∀ (r : List Int) (x : Int), (r.foldl (fun m y => if y > m then y else m) x ∈ x :: r) ∧ (∀ y ∈ x :: r, y ≤ r.foldl (fun m y => if y > m then y else m) x) := by
      intro r
      induction r with
      | nil => intro x; simp
      | cons z q ih =>
        intro x
        obtain ⟨i1, i2⟩ := ih (if z > x then z else x)
        simp only [List.foldl_cons]
        refine ⟨?_, fun y m => ?_⟩
        · rcases List.mem_cons.mp i1 with e | e
          · rw [e]; split <;> simp
          · exact List.mem_cons_of_mem _ (List.mem_cons_of_mem _ e)
        · have b := i2 _ List.mem_cons_self
          rcases List.mem_cons.mp m with e | e
          · refine Int.le_trans ?_ b
            rw [e]; split <;> omega
          · rcases List.mem_cons.mp e with e | e
            · refine Int.le_trans ?_ b
              rw [e]; split <;> omega
            · exact i2 y (List.mem_cons_of_mem _ e)
    have e := Option.some.inj (show some (r.foldl (fun m y => if y > m then y else m) x) = some m from h)
    rw [← e]
    exact key r x
theorem minI_spec : ∀ {ns : List Int} {m : Int}, minI ns = some m → 0 < ns.length ∧ m ∈ ns ∧ ∀ y ∈ ns, m ≤ y
  | [], _, h => by cases h
  | x :: r, m, h => by
    refine ⟨Nat.succ_pos _, ?_⟩
    have key : ∀ (r : List Int) (x : Int), (r.foldl (fun m y => if y < m then y else m) x ∈ x :: r) ∧ (∀ y ∈ x :: r, r.foldl (fun m y => if y < m then y else m) x ≤ y) := by
      intro r
      induction r with
      | nil => intro x; simp
      | cons z q ih =>
        intro x
        obtain ⟨i1, i2⟩ := ih (if z < x then z else x)
        simp only [List.foldl_cons]
        refine ⟨?_, fun y m => ?_⟩
        · rcases List.mem_cons.mp i1 with e | e
          · rw [e]; split <;> simp
          · exact List.mem_cons_of_mem _ (List.mem_cons_of_mem _ e)
        · have b := i2 _ List.mem_cons_self
          rcases List.mem_cons.mp m with e | e
          · refine Int.le_trans b ?_
            rw [e]; split <;> omega
          · rcases List.mem_cons.mp e with e | e
            · refine Int.le_trans b ?_
              rw [e]; split <;> omega
            · exact i2 y (List.mem_cons_of_mem _ e)
    have e := Option.some.inj (show some (r.foldl (fun m y => if y < m then y else m) x) = some m from h)
    rw [← e]
    exact key r x
/-! ### sorted texts are one -/
theorem le_txt {x y : Tx} : (x ≤ y) = ¬ (y < x) := rfl
theorem insT_perm (x : Tx) : ∀ l : List Tx, (insT x l).Perm (x :: l)
  | [] => .refl _
  | y :: r => by
    unfold insT
    split
    · exact .refl _
    · exact ((insT_perm x r).cons y).trans (.swap x y r)
theorem sortT_perm : ∀ l : List Tx, (sortT l).Perm l
  | [] => .refl _
  | x :: r => by
    show (insT x (sortT r)).Perm (x :: r)
    exact (insT_perm x _).trans ((sortT_perm r).cons x)
theorem insT_sorted (x : Tx) : ∀ l : List Tx, l.Pairwise (· ≤ ·) → (insT x l).Pairwise (· ≤ ·)
  | [], _ => by simp [insT]
  | y :: r, h => by
    unfold insT
    rw [List.pairwise_cons] at h
    split
    · rename_i hxy
      rw [List.pairwise_cons]
      refine ⟨fun z m => ?_, List.pairwise_cons.mpr h⟩
      rcases List.mem_cons.mp m with e | e
      · rw [e]; exact hxy
      · exact List.le_trans hxy (h.1 z e)
    · rename_i hxy
      rw [List.pairwise_cons]
      refine ⟨fun z m => ?_, insT_sorted x r h.2⟩
      rcases List.mem_cons.mp ((insT_perm x r).mem_iff.mp m) with e | e
      · rw [e]; exact (List.le_total y x).resolve_right hxy
      · exact h.1 z e
theorem sortT_sorted : ∀ l : List Tx, (sortT l).Pairwise (· ≤ ·)
  | [] => List.Pairwise.nil
  | x :: r => insT_sorted x _ (sortT_sorted r)
theorem sorted_one {l m : List Tx} (hp : l.Perm m) (h1 : l.Pairwise (· ≤ ·)) (h2 : m.Pairwise (· ≤ ·)) : l = m :=
  hp.eq_of_pairwise (fun a b _ _ x y => List.le_antisymm x y) h1 h2
theorem ltCps_eq : ∀ a b : List Nat, ltCps a b = decide (a < b)
  | [], [] => by simp [ltCps]
  | [], y :: q => by simp [ltCps]
  | x :: r, [] => by simp [ltCps]
  | x :: r, y :: q => by
    simp only [ltCps, ltCps_eq r q, List.cons_lt_cons_iff]
    by_cases h1 : x < y
    · simp [h1]
    · by_cases h2 : x = y
      · simp [h2]
      · simp [h1, h2]
theorem ltCps_of {a b : List Nat} (h : a < b) : ltCps a b = true := by
  rw [ltCps_eq]
  exact decide_eq_true h
theorem rising_pw : ∀ (r : List Str) (x : Str), risingS x r = true → (tl x :: r.map tl).Pairwise (· ≤ ·)
  | [], x, _ => by simp
  | y :: q, x, h => by
    unfold risingS at h
    rw [Bool.and_eq_true] at h
    have h1 : tl x ≤ tl y := by
      have z := h.1
      intro w
      rw [show ltCps y.cps.toList x.cps.toList = true from ltCps_of w] at z
      cases z
    have ih := rising_pw q y h.2
    refine List.pairwise_cons.mpr ⟨fun z m => ?_, ih⟩
    rcases List.mem_cons.mp m with e | e
    · rw [e]; exact h1
    · exact List.le_trans h1 ((List.pairwise_cons.mp ih).1 z e)
theorem sortedS_pw : ∀ {ys : List Str}, sortedS ys = true → (ys.map tl).Pairwise (· ≤ ·)
  | [], _ => List.Pairwise.nil
  | x :: r, h => rising_pw r x h
theorem sort_back {ys : List Str} {ss : List Tx} (hp : ys.Perm (ss.map toS)) (h : sortedS ys = true) : ys = (sortT ss).map toS := by
  have e : ys.map tl = sortT ss := by
    refine sorted_one ?_ (sortedS_pw h) (sortT_sorted ss)
    have h1 := hp.map tl
    rw [List.map_map] at h1
    have h2 : (ss.map (tl ∘ toS)) = ss := by
      rw [show (tl ∘ toS) = id from rfl, List.map_id]
    rw [h2] at h1
    exact h1.trans (sortT_perm ss).symm
  rw [← e, List.map_map]
  rw [show (toS ∘ tl) = id from funext fun z => toS_tl z, List.map_id]
theorem dedT_mem : ∀ (l : List Tx) (z : Tx), z ∈ dedT l ↔ z ∈ l
  | [], z => by simp [dedT]
  | x :: r, z => by
    unfold dedT
    have ih := dedT_mem r z
    split
    · rename_i h
      rw [ih]
      constructor
      · exact fun m => List.mem_cons_of_mem _ m
      · intro m
        rcases List.mem_cons.mp m with e | e
        · rw [e]; exact List.contains_iff_mem.mp h
        · exact e
    · rw [List.mem_cons, List.mem_cons, ih]
theorem dedT_nodup : ∀ l : List Tx, (dedT l).Nodup
  | [] => by simp [dedT]
  | x :: r => by
    unfold dedT
    split
    · exact dedT_nodup r
    · rename_i h
      rw [List.nodup_cons]
      exact ⟨fun m => h (List.contains_iff_mem.mpr ((dedT_mem r x).mp m)), dedT_nodup r⟩
/-! ### the readings -/
/-- str of an instance with its own __str__ -/
def rStrI (ca : Nat → Addr) (xn : Xn) (g : G) (K : PySem.W.Frag) : List V → Hp → VK → Prop := fun xs H Q => ∃ (i : Nat) (a : Addr) (c f : Nat) (fs : List (Str × Val)) (rho : List Addr) (s : S),
  xs = [.ref a] ∧ RelS K ca rho s H ∧ rho[i]? = some a ∧ s.st[i]? = some (.ins c fs) ∧ (g.pg.cs c).bind (·.strm) = some f ∧
  PV K ca xn (g.call f [.ref i] s) rho H (fun w H' => ∃ z, w = .str z ∧ Q w H') (fun _ _ _ => False)
def rRepr (K : PySem.W.Frag) : List V → Hp → VK → Prop := fun xs H Q => ∃ (x : V) (d : PyData), xs = [x] ∧ DpX H x d ∧ d.depth ≤ 61 ∧ d.showable = true ∧ d.shown.length ≤ sizeLine ∧ Q (.str d.shown) H
def rLstS : List V → Hp → VK → Prop := fun xs H Q => ∃ z : Str, xs = [.str z] ∧ z.length ≤ sizeLine ∧ ∀ p, H p = none → Q (.ref p) (upd H p (.lst (z.cps.toList.map fun c => V.str ⟨#[c]⟩)))
def rSset (K : PySem.W.Frag) : List V → Hp → VK → Prop := fun vs H Q => ∃ (a : Addr) (xs : List Str), vs = [V.ref a] ∧ SqL K H a (xs.map V.str) ∧ xs.length < 64 ∧
  ∀ (ys : List Str) (p : Addr), (∀ z, z ∈ ys ↔ z ∈ xs) → ys.Nodup → sortedS ys = true → H p = none → Q (.ref p) (upd H p (.lst (ys.map V.str)))
/-- new tuples at ts: the rows of four columns -/
structure Laid4 (H H1 : Hp) (ts : List Addr) (v1 v2 v3 v4 : List V) : Prop where
  keep : ∀ a u, H a = some u → H1 a = some u
  len : ts.length = v1.length
  at_ : ∀ (j : Nat) (T : Addr) (a b d e : V), ts[j]? = some T → v1[j]? = some a → v2[j]? = some b → v3[j]? = some d → v4[j]? = some e → ∃ o : Obj, o.dict = none ∧ H1 T = some (.frz o (.tup [a, b, d, e]))
def rZip4 (K : PySem.W.Frag) : List V → Hp → VK → Prop := fun us H Q => ∃ (p1 p2 p3 p4 : Addr) (v1 v2 v3 v4 : List V), us = [.ref p1, .ref p2, .ref p3, .ref p4] ∧ SqT K H p1 v1 ∧ SqT K H p2 v2 ∧ SqT K H p3 v3 ∧ SqT K H p4 v4 ∧
  v2.length = v1.length ∧ v3.length = v1.length ∧ v4.length = v1.length ∧ 0 < v1.length ∧ v1.length < 1000 ∧ ∀ (H1 : Hp) (ts : List Addr) (D : Addr), Laid4 H H1 ts v1 v2 v3 v4 → H1 D = none → Q (.ref D) (upd H1 D (.lst (ts.map V.ref)))
theorem RelS.keepAll {H1 : Hp} (R : RelS K ca rho s H) (k : ∀ a u, H a = some u → H1 a = some u) : RelS K ca rho s H1 ∧ Ext rho H rho H1 := by
  have x : Ext rho H rho H1 := ⟨⟨[], by simp⟩, fun a o h n => ⟨k a o h, n⟩⟩
  refine ⟨⟨R.len, R.nd, fun i o a e1 e2 => ?_⟩, x⟩
  have h := R.at_ i o a e1 e2
  refine h.keep R x ?_
  rcases h.is with ⟨vs, e⟩ | ⟨C, dx, gs, e⟩ <;> rw [k _ _ e, e]
theorem VRs.of_get : ∀ {xs : List Val} {vs : List V}, xs.length = vs.length → (∀ (j : Nat) (x : Val) (v : V), xs[j]? = some x → vs[j]? = some v → VR K ca rho H x v) → VRs K ca rho H xs vs
  | [], [], _, _ => by simp [VRs]
  | x :: r, v :: q, e, h => by
    simp only [VRs]
    exact ⟨v, q, rfl, h 0 x v rfl rfl, VRs.of_get (Nat.succ.inj e) fun j y w h1 h2 => h (j + 1) y w (by simpa using h1) (by simpa using h2)⟩
  | [], _ :: _, e, _ => by simp at e
  | _ :: _, [], e, _ => by simp at e
theorem zip4_len : ∀ {a b c d : List Val}, b.length = a.length → c.length = a.length → d.length = a.length → (zip4 a b c d).length = a.length
  | [], _, _, _, _, _, _ => by unfold zip4; rfl
  | x :: a, y :: b, z :: c, w :: d, h1, h2, h3 => by simp only [zip4, List.length_cons]; rw [zip4_len (Nat.succ.inj h1) (Nat.succ.inj h2) (Nat.succ.inj h3)]
  | _ :: _, [], _, _, h, _, _ => by simp at h
  | _ :: _, _ :: _, [], _, _, h, _ => by simp at h
  | _ :: _, _ :: _, _ :: _, [], _, _, h => by simp at h
theorem zip4_get : ∀ {a b c d : List Val} {j : Nat} {x : Val}, (zip4 a b c d)[j]? = some x → ∃ p q r t, x = .tup [p, q, r, t] ∧ a[j]? = some p ∧ b[j]? = some q ∧ c[j]? = some r ∧ d[j]? = some t
  | x :: a, y :: b, z :: c, w :: d, 0, u, h => by
    simp only [zip4, List.getElem?_cons_zero, Option.some.injEq] at h
    exact ⟨x, y, z, w, h.symm, rfl, rfl, rfl, rfl⟩
  | x :: a, y :: b, z :: c, w :: d, j + 1, u, h => by
    simp only [zip4, List.getElem?_cons_succ] at h
    obtain ⟨p, q, r, t, e, h1, h2, h3, h4⟩ := zip4_get h
    exact ⟨p, q, r, t, e, by simpa using h1, by simpa using h2, by simpa using h3, by simpa using h4⟩
  | [], _, _, _, _, _, h => by simp [zip4] at h
  | _ :: _, [], _, _, _, _, h => by simp [zip4] at h
  | _ :: _, _ :: _, [], _, _, _, h => by simp [zip4] at h
  | _ :: _, _ :: _, _ :: _, [], _, _, h => by simp [zip4] at h
def rLen (K : PySem.W.Frag) : List V → Hp → VK → Prop := fun xs H Q => ∃ x n, xs = [x] ∧ LenV K x H n ∧ Q (.int n) H
def rAbs : List V → Hp → VK → Prop := fun xs H Q => ∃ i, xs = [.int i] ∧ Q (.int (if i < 0 then -i else i)) H
def rInt : List V → Hp → VK → Prop := fun xs H Q => ((∃ i, xs = [.int i] ∧ Q (.int i) H) ∨ ∃ k, xs = [.bl k] ∧ Q (.int (if k then 1 else 0)) H) ∨ ∃ a n, xs = [.str a] ∧ PySem.intText? a = some n ∧ a.length ≤ 640 ∧ Q (.int n) H
def rBool : List V → Hp → VK → Prop := fun xs H Q => (∃ i, xs = [.int i] ∧ Q (.bl (i != 0)) H) ∨ ∃ k, xs = [.bl k] ∧ Q (.bl k) H
def rStr : List V → Hp → VK → Prop := fun xs H Q => ∃ i : Int, xs = [.int i] ∧ i.natAbs.log2 < 1920 ∧ Q (.str (toString i)) H
def rLst (K : PySem.W.Frag) : List V → Hp → VK → Prop := fun xs H Q => ∃ p ys, xs = [.ref p] ∧ (SqL K H p ys ∨ SqT K H p ys) ∧ ∀ l, H l = none → Q (.ref l) (upd H l (.lst ys))
def rTup (K : PySem.W.Frag) : List V → Hp → VK → Prop := fun xs H Q => ∃ p ys, xs = [.ref p] ∧ ((SqL K H p ys ∧ NewT H ys Q) ∨ (SqT K H p ys ∧ Q (.ref p) H))
theorem call_tupF {X : Cx} : CallR X (.type "tuple") (rTup X.K) := by
  intro pins sh sg H xs us Q I r h
  obtain ⟨p, ys, rfl, h⟩ := h
  obtain ⟨u, rfl, rx⟩ := vals1 r
  cases rx
  rcases h with ⟨hq, q⟩ | ⟨hq, q⟩
  · obtain ⟨its, r2, pl, hz⟩ := I.list hq
    have hlen := r2.length
    refine call_tuple_list pl.isList (fun h2 kp => ?_) (by simp only [List.size_toArray] <;> omega)
    have I1 : Inv X pins sg H { sh with heap := h2 } := I.kept (t' := sh.toks) kp
    exact laidT (tk := sh.toks) I1 r2 hz q
  · obtain ⟨its, r2, pl, hz⟩ := I.tuple hq
    exact call_tuple_same pl ⟨.ref p, H, I, rfl, q⟩
def rMax2 : List V → Hp → VK → Prop := fun xs H Q => ∃ i j, xs = [.int i, .int j] ∧ Q (.int (if j > i then j else i)) H
def rMin2 : List V → Hp → VK → Prop := fun xs H Q => ∃ i j, xs = [.int i, .int j] ∧ Q (.int (if j < i then j else i)) H
def rBf (ca : Nat → Addr) (xn : Xn) (g : G) (K : PySem.W.Frag) : Bf → List V → Hp → VK → Prop
  | .len => rLen K | .abs => rAbs | .int => rInt | .bool => rBool | .str => fun xs H Q => rStr xs H Q ∨ rStrI ca xn g K xs H Q | .repr => rRepr K
  | .list => fun xs H Q => rLst K xs H Q ∨ rLstS xs H Q | .tuple => rTup K | .max => fun xs H Q => rMax2 xs H Q ∨ L2.rMax K xs H Q | .min => fun xs H Q => rMin2 xs H Q ∨ L2.rMin K xs H Q
  | .all => L2.rAll K | .any => L2.rAny K | .sum => L2.rSum K | .sorted => fun xs H Q => L2.rSortedS K xs H Q ∨ rSortedT K xs H Q | .sset => rSset K | .zip4 => rZip4 K
/-- the readings' rules that are not the layer's -/
structure More (X : Cx) (ca : Nat → Addr) (xn : Xn) (g : G) : Prop where
  repr : CallR X (.builtin "repr") (rRepr X.K)
  lstS : CallR X (.type "list") rLstS
  strI : CallR X (.type "str") (rStrI ca xn g X.K)
  cp : ∀ o : Cp, OpR X (compareOp (cper o)) (rCp ca xn g X.K o)
def fBf : Bf → Value
  | .len => .builtin "len" | .abs => .builtin "abs" | .int => .type "int" | .bool => .type "bool" | .str => .type "str" | .repr => .builtin "repr" | .list => .type "list" | .tuple => .type "tuple"
  | .max => .builtin "max" | .min => .builtin "min" | .all => .builtin "all" | .any => .builtin "any" | .sum => .builtin "sum" | .sorted => .builtin "sorted" | .sset => .none | .zip4 => .none
/-- two calls as one -/
def fusB : Bf → Bool
  | .sset => true | .zip4 => true | _ => false
theorem bf_all {X : Cx} {ca : Nat → Addr} {xn : Xn} {g : G} (hc : X.calm = true) (M : More X ca xn g) : ∀ b : Bf, fusB b = false → CallR X (fBf b) (rBf ca xn g X.K b)
  | .len, _ => call_len | .abs, _ => call_abs | .int, _ => call_int1.or call_int_str | .bool, _ => call_bool1 | .str, _ => call_str_int.or M.strI | .repr, _ => M.repr | .list, _ => call_list_of.or M.lstS
  | .tuple, _ => call_tupF | .max, _ => (call_max2 hc).or (cr_max hc) | .min, _ => (call_min2 hc).or (cr_min hc) | .all, _ => cr_all hc | .any, _ => cr_any hc | .sum, _ => cr_sum hc | .sorted, _ => cr_sortedS.or cr_sortedT
  | .sset, h => nomatch h | .zip4, h => nomatch h
variable {g : G} {vs : List Val} {us : List V}
theorem s_bf : ∀ (b : Bf), RelS K ca rho s H → VRs K ca rho H vs us → PV K ca xn (bfv g b vs s) rho H Q E → rBf ca xn g K b us H Q
  | .len, R, hv, h => by
    match vs, hv, h with
    | [x], hv, h =>
      obtain ⟨u, rfl, hx⟩ := hv.one_of
      cases x <;> first | exact False.elim h | skip
      · obtain ⟨rfl, k⟩ := hx.str_of
        obtain ⟨c, h⟩ := Post.chk h
        refine ⟨_, _, rfl, ⟨by rw [toS_length]; exact okT_len k, rfl⟩, ?_⟩
        rw [toS_length]
        exact PV.int R h
      · obtain ⟨a, ws, rfl, q1, r1⟩ := hx.tup_of
        refine ⟨_, _, rfl, .inr ⟨ws, q1.sq, rfl⟩, ?_⟩
        rw [← r1.len]
        exact PV.int R h
      · obtain ⟨a, rfl, g1⟩ := hx.ref_of
        obtain ⟨xs, ws, e1, e2, r1, h⟩ := Post.lookL R g1 h
        refine ⟨_, _, rfl, .inl ⟨ws, SqL.of e2, rfl⟩, ?_⟩
        rw [← r1.len]
        exact PV.int R h
      · obtain ⟨a, ws, rfl, q1, r1⟩ := hx.lst_of
        refine ⟨_, _, rfl, .inl ⟨ws, q1, rfl⟩, ?_⟩
        rw [← r1.len]
        exact PV.int R h
    | [], hv, h => exact False.elim h
    | x :: y :: r, hv, h => cases x <;> exact False.elim h
  | .abs, R, hv, h => by
    match vs, hv, h with
    | [x], hv, h =>
      obtain ⟨u, rfl, hx⟩ := hv.one_of
      cases x <;> first | exact False.elim h | skip
      cases hx.int_of
      exact ⟨_, rfl, PV.int R h⟩
    | [], hv, h => exact False.elim h
    | x :: y :: r, hv, h => cases x <;> exact False.elim h
  | .int, R, hv, h => by
    match vs, hv, h with
    | [x], hv, h =>
      obtain ⟨u, rfl, hx⟩ := hv.one_of
      cases x with
      | int i =>
        cases hx.int_of
        exact .inl (.inl ⟨_, rfl, PV.int R h⟩)
      | bl b =>
        cases hx.bl_of
        exact .inl (.inr ⟨_, rfl, PV.int R h⟩)
      | str z =>
        match z, hx, h with
        | [c], hx, h =>
          obtain ⟨rfl, k⟩ := hx.str_of
          obtain ⟨cc, h⟩ := Post.chk h
          rw [Bool.and_eq_true] at cc
          exact .inr ⟨_, _, rfl, digit_val c (of_decide_eq_true cc.1) (of_decide_eq_true cc.2), by rw [toS_length]; simp, PV.int R h⟩
        | [], hx, h => exact False.elim h
        | _ :: _ :: _, hx, h => exact False.elim h
      | _ => exact False.elim h
    | [], hv, h => exact False.elim h
    | x :: y :: r, hv, h => cases x <;> first | exact False.elim h | (rename_i z; cases z with | nil => exact False.elim h | cons c q => cases q <;> exact False.elim h)
  | .bool, R, hv, h => by
    match vs, hv, h with
    | [x], hv, h =>
      obtain ⟨u, rfl, hx⟩ := hv.one_of
      cases x with
      | int i =>
        cases hx.int_of
        exact .inl ⟨_, rfl, PV.bl R h⟩
      | bl b =>
        cases hx.bl_of
        exact .inr ⟨_, rfl, PV.bl R h⟩
      | _ => exact False.elim h
    | [], hv, h => exact False.elim h
    | x :: y :: r, hv, h => cases x <;> exact False.elim h
  | .str, R, hv, h => by
    match vs, hv, h with
    | [x], hv, h =>
      obtain ⟨u, rfl, hx⟩ := hv.one_of
      cases x with
      | int i =>
        cases hx.int_of
        obtain ⟨cc, h⟩ := Post.chk h
        rw [Bool.and_eq_true] at cc
        refine .inl ⟨i, rfl, of_decide_eq_true cc.1, ?_⟩
        rw [← tl_ofInt]
        exact PV.str R h (okT_num (of_decide_eq_true cc.2))
      | ref i =>
        obtain ⟨a, rfl, g1⟩ := hx.ref_of
        obtain ⟨o, q1, q2, h⟩ := Post.look R g1 h.bnd
        cases o with
        | lst xs => exact False.elim h
        | ins c fs =>
          simp only at h
          cases e : (g.pg.cs c).bind (·.strm) with
          | none => simp only [e] at h; exact False.elim h
          | some f =>
            simp only [e] at h
            refine .inr ⟨i, a, c, f, fs, rho, s, rfl, R, g1, q2, e, h.bnd.noEx.imp fun v rho' s' H' x' R' hk => ?_⟩
            intro w hw
            cases v <;> first | exact False.elim hk | skip
            exact ⟨_, hw.str_of.1, hk.ret R' w hw⟩
      | _ => exact False.elim h
    | [], hv, h => exact False.elim h
    | x :: y :: r, hv, h => cases x <;> exact False.elim h
  | .repr, R, hv, h => by
    match vs, hv, h with
    | [x], hv, h =>
      obtain ⟨u, rfl, hx⟩ := hv.one_of
      obtain ⟨d, i1, i2, _, h⟩ := Post.deepR R hx h
      obtain ⟨t, e, h⟩ := Post.opt R h.bnd
      obtain ⟨cc, h⟩ := Post.chk h
      rw [Bool.and_eq_true] at cc
      unfold reprV at e
      split at e
      · rename_i sh
        cases e
        refine ⟨u, pd d, rfl, i1, i2, sh, ?_, ?_⟩
        · rw [len_tl, ← lim_eq]; exact of_decide_eq_true cc.2
        · have h2 := PV.str R h (by unfold okT; rw [cc.1, cc.2]; rfl)
          rw [toS_tl] at h2
          exact h2
      · cases e
    | [], hv, h => exact False.elim h
    | x :: y :: r, hv, h => exact False.elim h
  | .list, R, hv, h => by
    match vs, hv, h with
    | [x], hv, h =>
      obtain ⟨u, rfl, hx⟩ := hv.one_of
      cases x with
      | tup xs =>
        obtain ⟨a, ws, rfl, q1, r1⟩ := hx.tup_of
        exact .inl ⟨a, ws, rfl, .inr q1.sq, fun l hl => PV.lst R r1 h hl⟩
      | ref i =>
        obtain ⟨a, rfl, g1⟩ := hx.ref_of
        obtain ⟨xs, ws, e1, e2, r1, h⟩ := Post.lookL R g1 h
        exact .inl ⟨a, ws, rfl, .inl (SqL.of e2), fun l hl => PV.lst R r1 h hl⟩
      | str z =>
        obtain ⟨rfl, k⟩ := hx.str_of
        refine .inr ⟨_, rfl, by rw [toS_length]; exact okT_len k, fun p hp => ?_⟩
        refine PV.lst R ?_ h hp
        have key : ∀ z : Tx, (∀ c ∈ z, c < 1114112) → VRs K ca rho H (z.map fun c => Val.str [c]) (z.map fun c => V.str ⟨#[c]⟩) := by
          intro z
          induction z with
          | nil => intro _; simp [VRs]
          | cons c r ih =>
            intro hc
            simp only [List.map_cons, VRs]
            exact ⟨_, _, rfl, by simp only [VR]; exact ⟨rfl, okT_one (hc c List.mem_cons_self)⟩, ih fun d m => hc d (List.mem_cons_of_mem _ m)⟩
        exact key z (okT_iff.mp k).1
      | _ => exact False.elim h
    | [], hv, h => exact False.elim h
    | x :: y :: r, hv, h => cases x <;> exact False.elim h
  | .tuple, R, hv, h => by
    match vs, hv, h with
    | [x], hv, h =>
      obtain ⟨u, rfl, hx⟩ := hv.one_of
      cases x with
      | tup xs =>
        obtain ⟨a, ws, rfl, q1, r1⟩ := hx.tup_of
        exact ⟨a, ws, rfl, .inr ⟨q1.sq, h.ret R _ hx⟩⟩
      | ref i =>
        obtain ⟨a, rfl, g1⟩ := hx.ref_of
        obtain ⟨xs, ws, e1, e2, r1, h⟩ := Post.lookL R g1 h
        exact ⟨a, ws, rfl, .inl ⟨SqL.of e2, fun l o ho hl => PV.tup R r1 h ho hl⟩⟩
      | _ => exact False.elim h
    | [], hv, h => exact False.elim h
    | x :: y :: r, hv, h => cases x <;> exact False.elim h
  | .max, R, hv, h => by
    match vs, hv, h with
    | [x], hv, h =>
      obtain ⟨u, rfl, hx⟩ := hv.one_of
      cases x <;> first | exact False.elim h | skip
      obtain ⟨a, rfl, g1⟩ := hx.ref_of
      obtain ⟨xs, ws, e1, e2, r1, h⟩ := Post.lookL R g1 h
      obtain ⟨ns, e3, h⟩ := Post.opt R h.bnd
      obtain ⟨m, e4, h⟩ := Post.opt R h.bnd
      rw [ints_of e3 r1] at e2
      obtain ⟨m1, m2, m3⟩ := maxI_spec e4
      refine .inr ⟨a, ns, rfl, SqL.of e2, m1, fun m' h1 h2 => ?_⟩
      rw [show m' = m from Int.le_antisymm (m3 m' h1) (h2 m m2)]
      exact PV.int R h
    | [x, y], hv, h =>
      obtain ⟨u, v, rfl, hx, hy⟩ := hv.two_of
      cases x <;> cases y <;> first | exact False.elim h | skip
      cases hx.int_of; cases hy.int_of
      exact .inl ⟨_, _, rfl, PV.int R h⟩
    | [], hv, h => exact False.elim h
    | x :: y :: z :: r, hv, h => cases x <;> first | exact False.elim h | (cases y <;> exact False.elim h)
  | .min, R, hv, h => by
    match vs, hv, h with
    | [x], hv, h =>
      obtain ⟨u, rfl, hx⟩ := hv.one_of
      cases x <;> first | exact False.elim h | skip
      obtain ⟨a, rfl, g1⟩ := hx.ref_of
      obtain ⟨xs, ws, e1, e2, r1, h⟩ := Post.lookL R g1 h
      obtain ⟨ns, e3, h⟩ := Post.opt R h.bnd
      obtain ⟨m, e4, h⟩ := Post.opt R h.bnd
      rw [ints_of e3 r1] at e2
      obtain ⟨m1, m2, m3⟩ := minI_spec e4
      refine .inr ⟨a, ns, rfl, SqL.of e2, m1, fun m' h1 h2 => ?_⟩
      rw [show m' = m from Int.le_antisymm (h2 m m2) (m3 m' h1)]
      exact PV.int R h
    | [x, y], hv, h =>
      obtain ⟨u, v, rfl, hx, hy⟩ := hv.two_of
      cases x <;> cases y <;> first | exact False.elim h | skip
      cases hx.int_of; cases hy.int_of
      exact .inl ⟨_, _, rfl, PV.int R h⟩
    | [], hv, h => exact False.elim h
    | x :: y :: z :: r, hv, h => cases x <;> first | exact False.elim h | (cases y <;> exact False.elim h)
  | .all, R, hv, h => by
    match vs, hv, h with
    | [x], hv, h =>
      obtain ⟨u, rfl, hx⟩ := hv.one_of
      cases x <;> first | exact False.elim h | skip
      obtain ⟨a, rfl, g1⟩ := hx.ref_of
      obtain ⟨xs, ws, e1, e2, r1, h⟩ := Post.lookL R g1 h
      obtain ⟨ns, e3, h⟩ := Post.opt R h.bnd
      rw [bls_of e3 r1] at e2
      exact ⟨a, ns, rfl, SqL.of e2, PV.bl R h⟩
    | [], hv, h => exact False.elim h
    | x :: y :: r, hv, h => cases x <;> exact False.elim h
  | .any, R, hv, h => by
    match vs, hv, h with
    | [x], hv, h =>
      obtain ⟨u, rfl, hx⟩ := hv.one_of
      cases x <;> first | exact False.elim h | skip
      obtain ⟨a, rfl, g1⟩ := hx.ref_of
      obtain ⟨xs, ws, e1, e2, r1, h⟩ := Post.lookL R g1 h
      obtain ⟨ns, e3, h⟩ := Post.opt R h.bnd
      rw [bls_of e3 r1] at e2
      exact ⟨a, ns, rfl, SqL.of e2, PV.bl R h⟩
    | [], hv, h => exact False.elim h
    | x :: y :: r, hv, h => cases x <;> exact False.elim h
  | .sum, R, hv, h => by
    match vs, hv, h with
    | [x], hv, h =>
      obtain ⟨u, rfl, hx⟩ := hv.one_of
      cases x <;> first | exact False.elim h | skip
      obtain ⟨a, rfl, g1⟩ := hx.ref_of
      obtain ⟨xs, ws, e1, e2, r1, h⟩ := Post.lookL R g1 h
      obtain ⟨ns, e3, h⟩ := Post.opt R h.bnd
      rw [ints_of e3 r1] at e2
      exact ⟨a, ns, rfl, SqL.of e2, PV.int R h⟩
    | [], hv, h => exact False.elim h
    | x :: y :: r, hv, h => cases x <;> exact False.elim h
  | .sorted, R, hv, h => by
    match vs, hv, h with
    | [x], hv, h =>
      obtain ⟨u, rfl, hx⟩ := hv.one_of
      cases x <;> first | exact False.elim h | skip
      obtain ⟨a, rfl, g1⟩ := hx.ref_of
      obtain ⟨xs, ws, e1, e2, r1, h⟩ := Post.lookL R g1 h
      obtain ⟨cc, h⟩ := Post.chk h
      cases e3 : strsOf xs with
      | some ss =>
        simp only [e3] at h
        obtain ⟨e4, e5⟩ := strs_of e3 r1
        have hl : xs.length = ss.length := by rw [r1.len, e4, List.length_map]
        rw [e4, show (fun z => V.str (toS z)) = V.str ∘ toS from rfl, ← List.map_map] at e2
        refine .inl ⟨a, ss.map toS, rfl, SqL.of e2, by rw [List.length_map, ← hl]; exact of_decide_eq_true cc, fun ys p hp hs hn => ?_⟩
        rw [sort_back hp hs, List.map_map]
        exact PV.lst R (strs_back fun z m => e5 z ((sortT_perm ss).mem_iff.mp m)) h hn
      | none =>
        simp only [e3] at h
        obtain ⟨ps, e4, h⟩ := Post.opt R h.bnd
        obtain ⟨k1, k2, k3⟩ := prs_of e4 r1
        refine .inr ⟨a, ws, prAt H, rfl, SqL.of e2, k1, fun ys p hp hs hn => ?_⟩
        refine PV.lst R ?_ h hn
        rw [← sortP_one (l := ys.map (prAt H)) (by rw [← k3]; exact hp.map _) (List.pairwise_map.mpr hs)]
        exact prs_back (fun x m => k1 x (hp.mem_iff.mp m)) fun x m => k2 x (hp.mem_iff.mp m)
    | [], hv, h => exact False.elim h
    | x :: y :: r, hv, h => cases x <;> exact False.elim h
  | .sset, R, hv, h => by
    match vs, hv, h with
    | [x], hv, h =>
      obtain ⟨u, rfl, hx⟩ := hv.one_of
      cases x <;> first | exact False.elim h | skip
      obtain ⟨a, rfl, g1⟩ := hx.ref_of
      obtain ⟨xs, ws, e1, e2, r1, h⟩ := Post.lookL R g1 h
      obtain ⟨cc, h⟩ := Post.chk h
      obtain ⟨ss, e3, h⟩ := Post.opt R h.bnd
      obtain ⟨e4, e5⟩ := strs_of e3 r1
      have hl : xs.length = ss.length := by rw [r1.len, e4, List.length_map]
      rw [e4, show (fun z => V.str (toS z)) = V.str ∘ toS from rfl, ← List.map_map] at e2
      refine ⟨a, ss.map toS, rfl, SqL.of e2, by rw [List.length_map, ← hl]; exact of_decide_eq_true cc, fun ys p hm hd hs hn => ?_⟩
      have hp : ys.Perm ((dedT ss).map toS) := by
        refine (List.perm_ext_iff_of_nodup hd ?_).mpr fun z => ?_
        · exact (dedT_nodup ss).map _ fun a b n e => n (toS_inj e)
        · rw [hm z, List.mem_map, List.mem_map]
          exact ⟨fun ⟨y, m, e⟩ => ⟨y, (dedT_mem ss y).mpr m, e⟩, fun ⟨y, m, e⟩ => ⟨y, (dedT_mem ss y).mp m, e⟩⟩
      rw [sort_back hp hs, List.map_map]
      exact PV.lst R (strs_back fun z m => e5 z ((dedT_mem ss z).mp ((sortT_perm _).mem_iff.mp m))) h hn
    | [], hv, h => exact False.elim h
    | x :: y :: r, hv, h => cases x <;> exact False.elim h
  | .zip4, R, hv, h => by
    match vs, hv, h with
    | [], hv, h => exact False.elim h
    | [x], hv, h => cases x <;> exact False.elim h
    | [x, y], hv, h => cases x <;> first | exact False.elim h | (cases y <;> exact False.elim h)
    | [x, y, z], hv, h => cases x <;> first | exact False.elim h | (cases y <;> first | exact False.elim h | (cases z <;> exact False.elim h))
    | [x, y, z, w], hv, h =>
      cases x <;> first | exact False.elim h | (cases y <;> first | exact False.elim h | (cases z <;> first | exact False.elim h | (cases w <;> first | exact False.elim h | skip)))
      rename_i x1 x2 x3 x4
      obtain ⟨u1, q1, rfl, k1, hv⟩ := VRs.cons_iff.mp hv
      obtain ⟨u2, q2, rfl, k2, hv⟩ := VRs.cons_iff.mp hv
      obtain ⟨u3, u4, rfl, k3, k4⟩ := hv.two_of
      obtain ⟨a1, w1, rfl, t1, r1⟩ := k1.tup_of
      obtain ⟨a2, w2, rfl, t2, r2⟩ := k2.tup_of
      obtain ⟨a3, w3, rfl, t3, r3⟩ := k3.tup_of
      obtain ⟨a4, w4, rfl, t4, r4⟩ := k4.tup_of
      obtain ⟨cc, h⟩ := Post.chk h
      simp only [Bool.and_eq_true, decide_eq_true_eq] at cc
      obtain ⟨⟨⟨⟨c1, c2⟩, c3⟩, c4⟩, c5⟩ := cc
      refine ⟨a1, a2, a3, a4, w1, w2, w3, w4, rfl, t1.sq, t2.sq, t3.sq, t4.sq, by rw [← r1.len, ← r2.len]; exact c1, by rw [← r1.len, ← r3.len]; exact c2, by rw [← r1.len, ← r4.len]; exact c3, by rw [← r1.len]; exact c4, by rw [← r1.len]; exact c5, fun H1 ts D L hD => ?_⟩
      obtain ⟨R1, x1'⟩ := R.keepAll L.keep
      refine PV.lst R1 (VRs.of_get ?_ fun j x v e1 e2 => ?_) (Post.ext h x1') hD
      · rw [zip4_len c1 c2 c3, List.length_map, L.len, r1.len]
      · obtain ⟨y1, y2, y3, y4, rfl, g1, g2, g3, g4⟩ := zip4_get e1
        obtain ⟨v1, d1, m1⟩ := r1.get g1
        obtain ⟨v2, d2, m2⟩ := r2.get g2
        obtain ⟨v3, d3, m3⟩ := r3.get g3
        obtain ⟨v4, d4, m4⟩ := r4.get g4
        rw [List.getElem?_map] at e2
        cases e3 : ts[j]? with
        | none => rw [e3] at e2; cases e2
        | some T =>
          rw [e3] at e2
          cases e2
          obtain ⟨o, ho, hT⟩ := L.at_ j T v1 v2 v3 v4 e3 d1 d2 d3 d4
          simp only [VR, VRs]
          exact ⟨T, _, rfl, ⟨o, ho, hT⟩, _, _, rfl, m1.mono R x1', _, _, rfl, m2.mono R x1', _, _, rfl, m3.mono R x1', _, _, rfl, m4.mono R x1', rfl⟩
    | x :: y :: z :: w :: v :: r, hv, h => cases x <;> first | exact False.elim h | (cases y <;> first | exact False.elim h | (cases z <;> first | exact False.elim h | (cases w <;> exact False.elim h)))
end
end PI
end

section
set_option Elab.async false
set_option linter.all false
set_option maxRecDepth 100000
/-! PyS4: methods of built-in types. -/
namespace PI
open PySem PySem.Spec PyProof.Rows L2 TL
section
variable {K : PySem.W.Frag} {ca : Nat → Addr} {xn : Xn} {rho : List Addr} {H : Hp} {s : S} {Q : VK} {E : Value → Option Addr → Hp → Prop} {x y : Val} {u v : V} {vs : List Val} {us : List V}
/-! ### texts -/
theorem strsAre_lst {ss : List Tx} : (ss.map fun z => V.str (toS z)) = (ss.map toS).map V.str := by rw [List.map_map]; rfl
theorem toS_joinT (z : Tx) : ∀ ss : List Tx, toS (joinT z ss) = Txt.join (toS z) (ss.map toS) := by
  intro ss
  rw [join_eq]
  apply ext_tl
  rw [tl_join]
  induction ss with
  | nil => rfl
  | cons a r ih =>
    cases r with
    | nil => rfl
    | cons b q =>
      have ih' : joinT z (b :: q) = joinL (tl (toS z)) (((b :: q).map toS).map tl) := ih
      have e1 : tl (toS (joinT z (a :: b :: q))) = a ++ z ++ joinT z (b :: q) := rfl
      rw [e1, ih']
      simp only [List.map_cons, joinL, List.append_assoc]
      rfl
theorem joinT_len (z : Tx) : ∀ ss : List Tx, (joinT z ss).length ≤ (ss.map (·.length)).sum + ss.length * z.length
  | [] => Nat.zero_le _
  | [a] => by simp [joinT]
  | a :: b :: q => by
    have ih := joinT_len z (b :: q)
    simp only [joinT, List.length_append, List.map_cons, List.sum_cons, List.length_cons, Nat.add_mul, Nat.one_mul] at *
    omega
theorem joinT_mem (z : Tx) {c : Nat} : ∀ ss : List Tx, c ∈ joinT z ss → c ∈ z ∨ ∃ y ∈ ss, c ∈ y
  | [], h => by cases h
  | [a], h => .inr ⟨a, List.mem_cons_self, h⟩
  | a :: b :: q, h => by
    simp only [joinT, List.mem_append] at h
    rcases h with (h | h) | h
    · exact .inr ⟨a, List.mem_cons_self, h⟩
    · exact .inl h
    · rcases joinT_mem z (b :: q) h with h | ⟨y, m, h⟩
      · exact .inl h
      · exact .inr ⟨y, List.mem_cons_of_mem _ m, h⟩
theorem okT_join {z : Tx} {ss : List Tx} (hz : okT z = true) (hs : ∀ y ∈ ss, okT y = true) (hl : (ss.map (·.length)).sum + ss.length * z.length ≤ lim) : okT (joinT z ss) = true := by
  refine okT_iff.mpr ⟨fun c m => ?_, Nat.le_trans (joinT_len z ss) hl⟩
  rcases joinT_mem z ss m with h | ⟨y, m2, h⟩
  · exact (okT_iff.mp hz).1 c h
  · exact (okT_iff.mp (hs y m2)).1 c h
theorem splitT_spl (c : Nat) : ∀ (l acc : Tx), splitT c acc l = spl [c] 0 acc l
  | [], acc => rfl
  | x :: r, acc => by
    unfold splitT
    by_cases h : x = c
    · subst h
      rw [if_pos rfl, spl_hit (by simp [pre]), splitT_spl]
      rfl
    · rw [if_neg h, spl_miss (by simp [pre, h]), splitT_spl]
theorem splitT_mem (c : Nat) : ∀ (l acc : Tx) (p : Tx), p ∈ splitT c acc l → (∀ d ∈ p, d ∈ acc ∨ d ∈ l) ∧ p.length ≤ acc.length + l.length
  | [], acc, p, h => by
    simp only [splitT, List.mem_singleton] at h
    subst h
    exact ⟨fun d m => .inl m, Nat.le_add_right _ _⟩
  | x :: r, acc, p, h => by
    unfold splitT at h
    split at h
    · rcases List.mem_cons.mp h with e | h
      · subst e
        exact ⟨fun d m => .inl m, Nat.le_add_right _ _⟩
      · obtain ⟨h1, h2⟩ := splitT_mem c r [] p h
        refine ⟨fun d m => .inr ?_, by simp only [List.length_nil, List.length_cons] at *; omega⟩
        exact (h1 d m).elim (fun z => by cases z) fun z => List.mem_cons_of_mem _ z
    · obtain ⟨h1, h2⟩ := splitT_mem c r (acc ++ [x]) p h
      refine ⟨fun d m => ?_, by simp only [List.length_append, List.length_cons, List.length_nil] at *; omega⟩
      rcases h1 d m with z | z
      · rcases List.mem_append.mp z with z | z
        · exact .inl z
        · rw [List.mem_singleton.mp z]; exact .inr List.mem_cons_self
      · exact .inr (List.mem_cons_of_mem _ z)
theorem toS_split {z : Tx} {c : Nat} (hc : c < 256) : Txt.split (toS z) (toS [c]) = (splitT c [] z).map toS := by
  apply map_tl_inj
  rw [split_spl (toS z) (toS [c]) (by simp [tl, toS]) (kind_ok (by simp [toS, hc]))]
  rw [List.map_map, show (tl ∘ toS) = id from rfl, List.map_id]
  show spl [c] 0 [] z = _
  rw [splitT_spl]
/-! ### the readings -/
def rTix (K : PySem.W.Frag) : V → List V → Hp → VK → Prop := fun x xs H Q => ∃ p, ∃ ys : List Str, ∃ z j, x = .ref p ∧ xs = [.str z] ∧ SqT K H p (ys.map V.str) ∧ ys[j]? = some z ∧ (∀ m, m < j → ys[m]? ≠ some z) ∧ Q (.int (j : Nat)) H
def rIns : V → List V → Hp → VK → Prop := fun x vs H Q => ∃ (l : Addr) (xs : List V) (i : Int) (y : V), x = .ref l ∧ vs = [.int i, y] ∧ H l = some (.lst xs) ∧ xs.length < sizeLine ∧ 0 ≤ i ∧ i < 2 ^ 63 ∧
    Q .non (upd H l (.lst (xs.take i.toNat ++ [y] ++ xs.drop i.toNat)))
def rJn (K : PySem.W.Frag) : V → List V → Hp → VK → Prop := fun x xs H Q => ∃ a p, ∃ ys : List Str, x = .str a ∧ xs = [.ref p] ∧ (SqL K H p (ys.map V.str) ∨ SqT K H p (ys.map V.str)) ∧
    (ys.map (·.length)).sum + ys.length * a.length ≤ 16777216 ∧ Q (.str (Txt.join a ys)) H
def rSpt : V → List V → Hp → VK → Prop := fun x xs H Q => ∃ a b, x = .str a ∧ xs = [.str b] ∧ (b.length == 0) = false ∧ a.length + 2 ≤ sizeLine ∧ rNewStrs (Txt.split a b) H Q
/-- list methods with arguments -/
def rBmL (K : PySem.W.Frag) : Bm → V → List V → Hp → VK → Prop
  | .append => rAppend | .index => rIndexD K | .insert => rIns | .pop => rPopAt | _ => fun _ _ _ _ => False
/-- .. without -/
def rBm0 : Bm → V → List V → Hp → VK → Prop
  | .clear => rClear | .pop => rPop | _ => fun _ _ _ _ => False
theorem mapM_len {α β : Type} {f : α → Option β} : ∀ {l : List α} {m : List β}, l.mapM f = some m → m.length = l.length
  | [], m, h => by
    rw [mapM_nil] at h
    cases h; rfl
  | x :: r, m, h => by
    obtain ⟨y, q, rfl, _, h2⟩ := mapM_cons h
    simp [mapM_len h2]
theorem pds_get : ∀ (ds : List Val) (j : Nat), (pds ds)[j]? = ds[j]?.map pd
  | [], j => by simp [pds]
  | x :: r, 0 => by simp [pds]
  | x :: r, j + 1 => by simp [pds, pds_get r j]
theorem indexV_spec (x : Val) : ∀ (ds : List Val) (n j : Nat), indexV x ds n = some j → n ≤ j ∧ ∃ z, ds[j - n]? = some z ∧ veq z x = true ∧ ∀ m z', m < j - n → ds[m]? = some z' → veq z' x = false
  | [], n, j, h => by cases h
  | y :: r, n, j, h => by
    unfold indexV at h
    split at h
    · rename_i hv
      cases h
      exact ⟨Nat.le_refl _, y, by simp, hv, fun m z' hm => by omega⟩
    · rename_i hv
      obtain ⟨h1, z, h2, h3, h4⟩ := indexV_spec x r (n + 1) j h
      refine ⟨by omega, z, ?_, h3, fun m z' hm e => ?_⟩
      · rw [show j - n = (j - (n + 1)) + 1 by omega]
        simpa using h2
      · cases m with
        | zero =>
          simp at e
          subst e
          simpa using hv
        | succ m => exact h4 m z' (by omega) (by simpa using e)
theorem ixN_seq' {n : Nat} {i : Int} {j : Nat} (h : PI.ixN n i = some j) : seqIndex? i n = some j := (L2.ixN_seq h).1
theorem s_bmL {i : Nat} {b : Bm} (R : RelS K ca rho s H) (hx : VR K ca rho H (.ref i) u) (hv : VRs K ca rho H vs us) (hne : vs ≠ []) (h : PV K ca xn (bmv b (.ref i) vs s) rho H Q E) : rBmL K b u us H Q := by
  obtain ⟨a, rfl, g1⟩ := hx.ref_of
  cases b with
  | append =>
    match vs, hv, hne, h with
    | [x], hv, _, h =>
      obtain ⟨w, rfl, hw⟩ := hv.one_of
      obtain ⟨xs, ws, e1, e2, r1, h⟩ := Post.lookL R g1 h
      obtain ⟨cc, h⟩ := Post.chk h
      obtain ⟨s', R', x', h⟩ := Post.putL R g1 (r1.append (VRs.one hw)) h.bnd
      exact ⟨a, ws, w, rfl, rfl, e2, by rw [← r1.len, ← lim_eq]; exact of_decide_eq_true cc, PV.non R' h⟩
    | x :: y :: r, hv, _, h => exact False.elim h
  | index =>
    match vs, hv, hne, h with
    | [x], hv, _, h =>
      obtain ⟨w, rfl, hw⟩ := hv.one_of
      have h : PV K ca xn (bnd (look i) (fun o => bnd (opt (lstOf o)) fun xs => bnd (deepM x) fun d => bnd (deepM (.tup xs)) fun t => (match t with
        | .tup ds => bnd (opt (indexV d ds 0)) fun j => PI.ret (.int j)
        | _ => PI.bad)) s) rho H Q E := by
        cases x <;> exact h
      obtain ⟨xs, ws, e1, e2, r1, h⟩ := Post.lookL R g1 h
      obtain ⟨d, i1, _, h⟩ := Post.deepM R hw h
      have h := h.bnd
      unfold PI.deepM at h
      cases q : deep s.st 60 (.tup xs) with
      | none => rw [q] at h; exact h.elim
      | some t =>
        rw [q] at h
        simp only [deep] at q
        cases q2 : xs.mapM (deep s.st 59) with
        | none => rw [q2] at q; cases q
        | some ds =>
          rw [q2] at q
          cases q
          obtain ⟨j1, j2, j3⟩ := deep_list (deep_ok R 59) xs ds ws q2 r1
          have h := h rho H Ext.rfl' R
          obtain ⟨j, ej, h⟩ := Post.opt R h.bnd
          obtain ⟨_, z, k1, k2, k3⟩ := indexV_spec d ds 0 j ej
          rw [Nat.sub_zero] at k1 k3
          have sh : SeqAt.shaped (.list (pds ds)) = true := by
            unfold SeqAt.shaped
            rw [show (PyData.list (pds ds)).canLay0 = true by simp only [PyData.canLay0, j2], decide_eq_true (show (PyData.list (pds ds)).depth ≤ 64 by simp only [PyData.depth]; omega)]
            rfl
          refine ⟨a, w, pd d, pds ds, j, pd z, rfl, rfl, .lst (SqL.of e2) j1, i1.dp, sh, i1.shaped, by rw [pds_get, k1]; rfl, by rw [eqv_pd]; exact k2, fun m z' hm e => ?_, PV.int R h⟩
          rw [pds_get] at e
          cases q3 : ds[m]? with
          | none => rw [q3] at e; cases e
          | some z2 =>
            rw [q3] at e
            cases e
            rw [eqv_pd]
            exact k3 m z2 hm q3
    | x :: y :: r, hv, _, h => cases x <;> exact False.elim h
  | insert =>
    match vs, hv, hne, h with
    | [x, y], hv, _, h =>
      obtain ⟨w, z, rfl, hw, hz⟩ := hv.two_of
      cases x <;> first | exact False.elim h | skip
      cases hw.int_of
      obtain ⟨xs, ws, e1, e2, r1, h⟩ := Post.lookL R g1 h
      obtain ⟨cc, h⟩ := Post.chk h
      rw [Bool.and_eq_true, Bool.and_eq_true] at cc
      obtain ⟨s', R', x', h⟩ := Post.putL R g1 (((r1.take _).append (VRs.one hz)).append (r1.drop _)) h.bnd
      exact ⟨a, ws, _, z, rfl, rfl, e2, by rw [← r1.len, ← lim_eq]; exact of_decide_eq_true cc.1.1, of_decide_eq_true cc.1.2, of_decide_eq_true cc.2, PV.non R' h⟩
    | [x], hv, _, h => cases x <;> exact False.elim h
    | x :: y :: z :: r, hv, _, h => cases x <;> exact False.elim h
  | pop =>
    match vs, hv, hne, h with
    | [x], hv, _, h =>
      obtain ⟨w, rfl, hw⟩ := hv.one_of
      cases x <;> first | exact False.elim h | skip
      cases hw.int_of
      obtain ⟨xs, ws, e1, e2, r1, h⟩ := Post.lookL R g1 h
      obtain ⟨cc, h⟩ := Post.chk h
      rw [Bool.and_eq_true] at cc
      obtain ⟨j, e3, h⟩ := Post.opt R h.bnd
      obtain ⟨y, e4, h⟩ := Post.opt R h.bnd
      obtain ⟨z, e5, e6⟩ := r1.get e4
      obtain ⟨s', R', x', h⟩ := Post.putL R g1 (r1.eraseIdx j) h.bnd
      exact ⟨a, ws, _, j, z, rfl, rfl, e2, of_decide_eq_true cc.1, of_decide_eq_true cc.2, by rw [← r1.len]; exact ixN_seq' e3, e5, h.ret R' _ (e6.mono R x')⟩
    | x :: y :: r, hv, _, h => cases x <;> exact False.elim h
  | clear => cases vs with
    | nil => exact absurd rfl hne
    | cons x r => exact False.elim h
  | join => exact False.elim h
  | split => exact False.elim h
  | extend => exact False.elim h
theorem s_bm0 {i : Nat} {b : Bm} (R : RelS K ca rho s H) (hx : VR K ca rho H (.ref i) u) (h : PV K ca xn (bmv b (.ref i) [] s) rho H Q E) : rBm0 b u [] H Q := by
  obtain ⟨a, rfl, g1⟩ := hx.ref_of
  cases b with
  | clear =>
    obtain ⟨xs, ws, e1, e2, r1, h⟩ := Post.lookL R g1 h
    obtain ⟨s', R', x', h⟩ := Post.putL R g1 (xs := []) (zs := []) (by simp [VRs]) h.bnd
    exact ⟨a, ws, rfl, rfl, e2, PV.non R' h⟩
  | pop =>
    obtain ⟨xs, ws, e1, e2, r1, h⟩ := Post.lookL R g1 h
    obtain ⟨y, e4, h⟩ := Post.opt R h.bnd
    obtain ⟨z, e5, e6⟩ := r1.get e4
    obtain ⟨s', R', x', h⟩ := Post.putL R g1 r1.dropLast h.bnd
    exact ⟨a, ws, z, rfl, rfl, e2, by rw [← r1.len]; exact e5, h.ret R' _ (e6.mono R x')⟩
  | _ => exact False.elim h
theorem s_tix {xs : List Val} (R : RelS K ca rho s H) (hx : VR K ca rho H (.tup xs) u) (hv : VRs K ca rho H vs us) (h : PV K ca xn (bmv .index (.tup xs) vs s) rho H Q E) : (∃ a zs, u = .ref a ∧ TupK H a zs) ∧ rTix K u us H Q := by
  obtain ⟨a, zs, rfl, q1, r1⟩ := hx.tup_of
  refine ⟨⟨a, zs, rfl, q1⟩, ?_⟩
  match vs, hv, h with
  | [x], hv, h =>
    obtain ⟨w, rfl, hw⟩ := hv.one_of
    cases x <;> first | exact False.elim h | skip
    rename_i z
    obtain ⟨rfl, _⟩ := hw.str_of
    obtain ⟨ss, e3, h⟩ := Post.opt R h.bnd
    obtain ⟨j, e4, h⟩ := Post.opt R h.bnd
    obtain ⟨e5, e6⟩ := strs_of e3 r1
    rw [e5, strsAre_lst] at q1
    obtain ⟨hj, f1, f2⟩ := List.findIdx?_eq_some_iff_getElem.mp e4
    refine ⟨a, ss.map toS, toS z, j, rfl, rfl, q1.sq, ?_, fun m hm e => ?_, PV.int R h⟩
    · rw [List.getElem?_map, List.getElem?_eq_getElem hj]
      rw [eq_of_beq f1]; rfl
    · rw [List.getElem?_map] at e
      cases q : ss[m]? with
      | none => rw [q] at e; cases e
      | some y =>
        rw [q] at e
        have e2 : y = z := toS_inj (Option.some.inj e)
        obtain ⟨hm2, e8⟩ := List.getElem?_eq_some_iff.mp q
        have := f2 m hm
        rw [e8, e2] at this
        simp at this
  | [], hv, h => exact False.elim h
  | x :: y :: r, hv, h => cases x <;> exact False.elim h
theorem s_join {z : Tx} (R : RelS K ca rho s H) (hx : VR K ca rho H (.str z) u) (hv : VRs K ca rho H vs us) (h : PV K ca xn (bmv .join (.str z) vs s) rho H Q E) : rJn K u us H Q := by
  obtain ⟨rfl, k⟩ := hx.str_of
  match vs, hv, h with
  | [x], hv, h =>
    obtain ⟨w, rfl, hw⟩ := hv.one_of
    have fin : ∀ {xs : List Val} {zs : List V}, VRs K ca rho H xs zs → PV K ca xn (bnd (opt (strsOf xs)) (fun ss => PI.chk (decide ((ss.map (·.length)).sum + ss.length * z.length ≤ lim)) (PI.ret (.str (joinT z ss)))) s) rho H Q E →
        ∃ ys : List Str, zs = ys.map V.str ∧ (ys.map (·.length)).sum + ys.length * (toS z).length ≤ 16777216 ∧ Q (.str (Txt.join (toS z) ys)) H := by
      intro xs zs r1 h
      obtain ⟨ss, e3, h⟩ := Post.opt R h.bnd
      obtain ⟨cc, h⟩ := Post.chk h
      obtain ⟨e5, e6⟩ := strs_of e3 r1
      have e := of_decide_eq_true cc
      refine ⟨ss.map toS, by rw [e5, strsAre_lst], ?_, ?_⟩
      · rw [List.map_map, List.length_map, toS_length, show ((fun (x : Str) => x.length) ∘ toS) = (fun (x : Tx) => x.length) from funext fun x => toS_length x]
        exact e
      · rw [← toS_joinT]
        exact PV.str R h (okT_join k e6 e)
    cases x with
    | tup xs =>
      obtain ⟨a, zs, rfl, q1, r1⟩ := hw.tup_of
      obtain ⟨ys, rfl, e1, e2⟩ := fin r1 h
      exact ⟨_, a, ys, rfl, rfl, .inr q1.sq, e1, e2⟩
    | ref i =>
      obtain ⟨a, rfl, g1⟩ := hw.ref_of
      have h : PV K ca xn (bnd (bnd (look i) fun o => opt (lstOf o)) (fun xs => bnd (opt (strsOf xs)) fun ss => PI.chk (decide ((ss.map (·.length)).sum + ss.length * z.length ≤ lim)) (PI.ret (.str (joinT z ss)))) s) rho H Q E := h
      rw [bnd_assoc] at h
      obtain ⟨xs, ws, e1, e2, r1, h⟩ := Post.lookL R g1 h
      obtain ⟨ys, rfl, e3, e4⟩ := fin r1 h
      exact ⟨_, a, ys, rfl, rfl, .inl (SqL.of e2), e3, e4⟩
    | _ => exact False.elim h
  | [], hv, h => exact False.elim h
  | x :: y :: r, hv, h => exact False.elim h
theorem s_split {z : Tx} (R : RelS K ca rho s H) (hx : VR K ca rho H (.str z) u) (hv : VRs K ca rho H vs us) (h : PV K ca xn (bmv .split (.str z) vs s) rho H Q E) : rSpt u us H Q := by
  obtain ⟨rfl, k⟩ := hx.str_of
  match vs, hv, h with
  | [x], hv, h =>
    obtain ⟨w, rfl, hw⟩ := hv.one_of
    cases x <;> first | exact False.elim h | skip
    rename_i y
    match y, hw, h with
    | [c], hw, h =>
      obtain ⟨rfl, k2⟩ := hw.str_of
      obtain ⟨cc, h⟩ := Post.chk h
      rw [Bool.and_eq_true] at cc
      refine ⟨_, _, rfl, rfl, rfl, by rw [toS_length, ← lim_eq]; exact of_decide_eq_true cc.1, fun p hp => ?_⟩
      rw [toS_split (of_decide_eq_true cc.2), ← strsAre_lst]
      refine PV.lst R (strs_back fun q m => ?_) h hp
      obtain ⟨h1, h2⟩ := splitT_mem c z [] q m
      exact okT_sub k (fun d md => (h1 d md).elim (fun z => by cases z) id) (by simpa using h2)
    | [], hw, h => exact False.elim h
    | _ :: _ :: _, hw, h => exact False.elim h
  | [], hv, h => exact False.elim h
  | x :: y :: r, hv, h =>
    cases x with
    | str q => cases q with
      | nil => exact False.elim h
      | cons c q => cases q <;> exact False.elim h
    | _ => exact False.elim h
end
end PI
end

section
set_option Elab.async false
set_option linter.all false
set_option maxRecDepth 100000
/-! PyS5: what is known of the program; calls. -/
namespace PI
open PySem PySem.Spec PyProof.Rows L2 TL
/-- the program's names -/
structure GI where
  pg : Pg
  wf : Nat
  gf : List (Str × Nat)
  gc : List (Str × Nat)
  gk : List (Str × Val)
  bi : List Str
  sm : List ((Str × Str) × Nat)
  pn : Nat → List Str
  xn : Xn
  /-- errors that are known to be of a class: an own one, or ValueError -/
  ky : List (Nat × Option Nat)
structure Ad where
  fa : Nat → Addr
  fd : Nat → FuncData
  ca : Nat → Addr
/-- a constant as a value -/
def kv : Val → V
  | .bl b => .bl b
  | .int i => .int i
  | .str z => .str (toS z)
  | _ => .non
def kOk : Val → Bool
  | .non => true
  | .bl _ => true
  | .int _ => true
  | .str z => okT z
  | _ => false
theorem kv_ok {K : PySem.W.Frag} {ca : Nat → Addr} {rho : List Addr} {H : Hp} : ∀ {v : Val}, kOk v = true → VR K ca rho H v (kv v)
  | .non, _ => by simp [VR, kv]
  | .bl _, _ => by simp [VR, kv]
  | .int _, _ => by simp [VR, kv]
  | .str z, h => by simp only [VR, kv]; exact ⟨trivial, h⟩
  | .tup _, h => by cases h
  | .ref _, h => by cases h
  | .lst _, h => by cases h
  | .dct _, h => by cases h
theorem kv_one {K : PySem.W.Frag} {ca : Nat → Addr} {rho : List Addr} {H : Hp} {v : Val} {w : V} (h : kOk v = true) (r : VR K ca rho H v w) : w = kv v := by
  cases v <;> first | cases h; done | skip
  · exact r.non_of
  · exact r.bl_of
  · exact r.int_of
  · exact r.str_of.1
/-- a def by its promise, called where no repr is running -/
structure FnG (P : Program) (w : World) (K : PySem.W.Frag) (mg : Str → Option Value) (base : Heap) (k : Nat) (f : Addr) (fd : FuncData) (ps : List Str) (sp : Sp) : Prop where
  len : ∀ vs H Q E, sp vs H Q E → vs.length = ps.length
  run : ∀ (A : Around) (outer : List Env) (sh : Shared) (H : Hp) (args : Args) (us : List Value) (vs : List V) (Q : VK) (E : XK), Room k A → A.guards = some [] → Env0 P w K mg base A outer sh H → BindsTo sh fd args (ps.zip us) → Vals vs us →
    sp vs H Q E → codeAny (model P w) A (.call (.ref f) args) (CR (L2.CX P w) outer P w H sh Q E) sh
theorem FnG.mono {P : Program} {w : World} {K : PySem.W.Frag} {mg : Str → Option Value} {base : Heap} {j k : Nat} {f : Addr} {fd : FuncData} {ps : List Str} {sp : Sp} (F : FnG P w K mg base j f fd ps sp) (h : j ≤ k) : FnG P w K mg base k f fd ps sp :=
  ⟨F.len, fun A outer sh H args us vs Q E hr => F.run A outer sh H args us vs Q E (hr.mono h)⟩
section
variable {X : Cx} {k : Nat} {f c : Addr} {fd : FuncData} {ps : List Str} {sp : Sp} {W : WX} {x m : Str}
/-- the callee runs -/
theorem runG {pins : List (Addr × Obj)} {sg : L2.St} {H : Hp} {sh : Shared} {Q : VK} {us : List Value} {vs : List V} (F : FnG X.prog X.w X.K X.mg X.base k f fd ps sp) (hr : Room k X.A) (hg : X.A.guards = some []) (hb : Binds X.K fd ps []) (tk : Takes X W)
    (I : Inv X pins sg H sh) (r : Vals vs us) (h : sp vs H Q (fun cls d H' => W cls d sg H')) : wpAny (model X.prog X.w) X.A (call (.ref f) us) (EP X pins sg Q) X.xe sh := by
  have hl : (us ++ []).length = ps.length := by rw [List.append_nil, ← r.length]; exact F.len _ _ _ _ h
  have hb' := hb sh us I.kIn hl
  rw [List.append_nil] at hb'
  refine wpAny_call (codeAny_mono (F.run X.A X.stack sh H ⟨us, []⟩ us vs Q _ hr hg I.env0 hb' r h) fun res s2 hq => ?_)
  cases res with
  | error e => exact passAt tk sg pins H sh e s2 I hq
  | ok fl =>
    cases fl with
    | ret u => exact I.after hq
    | next => exact hq.elim
    | brk => exact hq.elim
    | cont => exact hq.elim
/-- f(..) -/
def tCallG (sp : Sp) (W : WX) (t : TA) : TE := fun sg H Q => t sg H fun vs H1 => sp vs H1 Q (fun cls d H' => W cls d sg H')
theorem pe_callG {e : Expr} {es : List Expr} {t : TA} {p pos : Pos} (F : FnG X.prog X.w X.K X.mg X.base k f fd ps sp) (hr : Room k X.A) (hg : X.A.guards = some []) (hgl : Gl X x) (hm : X.mg x = some (.ref f)) (hk : PySem.W.keepIn X.K (.ref f) = true) (hb : Binds X.K fd ps []) (tk : Takes X W)
    (ha : PA X (e :: es) t) (hdb : (x == ("__debug__" : Str)) = false) (hs : starEach (e :: es) X.env = (false, eval e X.env) :: starEach es X.env) (hp : (backTo pos (starEach es X.env)).any (·.1) = false) :
    PE X (.Call (.Name x p) (e :: es) [] pos) (tCallG sp W t) := by
  refine ⟨fun pins sh sg H Q I h => ?_⟩
  refine wpAny_Call_Name_kw (ld_glob I hgl hm ?_ hdb)
  refine PySem.W.callWith_K (h₀ := X.base) I.ok.mod.kin hk (thn (ha.run pos pins sh sg H _ I h) fun us s1 ⟨vs, H1, I1, r1, q⟩ => ⟨I1.kIn, ?_⟩) hs hp
  exact runG F hr hg hb tk I1 r1 q
theorem pe_callG0 {p pos : Pos} (F : FnG X.prog X.w X.K X.mg X.base k f fd ps sp) (hr : Room k X.A) (hg : X.A.guards = some []) (hgl : Gl X x) (hm : X.mg x = some (.ref f)) (hk : PySem.W.keepIn X.K (.ref f) = true) (hb : Binds X.K fd ps []) (tk : Takes X W)
    (hdb : (x == ("__debug__" : Str)) = false) : PE X (.Call (.Name x p) [] [] pos) (tCallG sp W tNil) := by
  refine ⟨fun pins sh sg H Q I h => ?_⟩
  refine wpAny_Call_Name_kw (ld_glob I hgl hm ?_ hdb)
  exact PySem.W.callWith_K0 I.kIn hk (runG (us := []) F hr hg hb tk I .nil h)
/-- o.m(..) -/
def tMethG (C : Addr) (m : Str) (sp : Sp) (W : WX) (ta : TE) (t : TA) : TE := fun sg H Q => ta sg H fun x H1 => ∃ a dx fs, x = .ref a ∧ H1 a = some (.ins C dx fs) ∧ fs.lookup m = none ∧ t sg H1 fun vs H2 => sp (x :: vs) H2 Q (fun cls d H' => W cls d sg H')
/-- what a method's call is made of -/
def MtForm (X : Cx) (o : Expr) (m : Str) (apos pos : Pos) (args : List Expr) (pl : Sem Bool) : Prop := eval (.Call (.Attribute o m apos) args [] pos) X.env = (do
      let ov ← eval o X.env
      standAt apos.atName
      let (g, first) ← holding [ov] (getMethod ov m pl)
      callWith pos g first (backTo pos (starEach args X.env)) (backToKw pos (keywordEach [] X.env)))
theorem pe_methG {o e : Expr} {es : List Expr} {ta : TE} {t : TA} {apos pos : Pos} {pl : Sem Bool} (he : PE X o ta) (hc : Cls X.K c) (hm : Meth X.K c m f) (F : FnG X.prog X.w X.K X.mg X.base k f fd ps sp) (hr : Room k X.A) (hg : X.A.guards = some []) (hb : Binds X.K fd ps []) (tk : Takes X W)
    (ha : PA X (e :: es) t) (hs : starEach (e :: es) X.env = (false, eval e X.env) :: starEach es X.env) (hp : (backTo pos (starEach es X.env)).any (·.1) = false) (ht : MtForm X o m apos pos (e :: es) pl) :
    PE X (.Call (.Attribute o m apos) (e :: es) [] pos) (tMethG c m sp W ta t) := by
  refine ⟨fun pins sh sg H Q I h => ?_⟩
  refine PySem.W.methodCall_KW (pl := pl) (thn (he.run pins sh sg H _ I h) fun u s1 ⟨x, H1, I1, rx, a, dx, fs, ex, ea, l, q⟩ => ?_) ht
  subst ex
  obtain rfl : u = Value.ref a := rx
  refine getmeth_ok I1 ea hc hm l ?_
  refine PySem.W.callWith_K (first := [.ref a]) (h₀ := X.base) I.ok.mod.kin hm.kp (thn (ha.run pos pins s1 sg H1 _ I1 q) fun us s2 ⟨vs, H2, I2, r, q2⟩ => ⟨I2.kIn, ?_⟩) hs hp
  exact runG (us := .ref a :: us) (vs := .ref a :: vs) F hr hg hb tk I2 (.cons rfl r) q2
theorem pe_methG0 {o : Expr} {ta : TE} {apos pos : Pos} {pl : Sem Bool} (he : PE X o ta) (hc : Cls X.K c) (hm : Meth X.K c m f) (F : FnG X.prog X.w X.K X.mg X.base k f fd ps sp) (hr : Room k X.A) (hg : X.A.guards = some []) (hb : Binds X.K fd ps []) (tk : Takes X W)
    (ht : MtForm X o m apos pos [] pl) : PE X (.Call (.Attribute o m apos) [] [] pos) (tMethG c m sp W ta tNil) := by
  refine ⟨fun pins sh sg H Q I h => ?_⟩
  refine PySem.W.methodCall_KW (pl := pl) (thn (he.run pins sh sg H _ I h) fun u s1 ⟨x, H1, I1, rx, a, dx, fs, ex, ea, l, q⟩ => ?_) ht
  subst ex
  obtain rfl : u = Value.ref a := rx
  refine getmeth_ok I1 ea hc hm l ?_
  exact PySem.W.callWith_K0 (first := [.ref a]) I1.kIn hm.kp (runG (us := [.ref a]) (vs := [.ref a]) F hr hg hb tk I1 (.cons rfl .nil) q)
/-- C(..) -/
def tMakeG (C : Addr) (sp : Sp) (W : WX) (t : TA) : TE := fun sg H Q => t sg H fun vs H1 => ∀ x dx, H1 x = none → H1 dx = none → dx ≠ x →
  sp (.ref x :: vs) (upd (upd H1 dx (.own x)) x (.ins C dx [])) (fun v H2 => v = .non ∧ Q (.ref x) H2) (fun cls d H' => W cls d sg H')
theorem guards_make {A : Around} {C : Addr} {us : List Value} {kw : List (Str × Value)} : (A.under (.builtin "type.__call__" ⟨.ref C :: us, kw⟩)).guards = A.guards := by
  simp [Around.under, Code.guards, Code.isGuard, pushGuards, guardIds]
theorem runMakeG {pins : List (Addr × Obj)} {sg : L2.St} {H : Hp} {sh : Shared} {Q : VK} {us : List Value} {vs : List V} (M : Mk X.K c f) (F : FnG X.prog X.w X.K X.mg X.base k f fd ps sp) (hr : Room (k + 1) X.A) (hg : X.A.guards = some []) (hb : Binds X.K fd ps []) (tk : Takes X W)
    (I : Inv X pins sg H sh) (r : Vals vs us)
    (h : ∀ x dx, H x = none → H dx = none → dx ≠ x → sp (.ref x :: vs) (upd (upd H dx (.own x)) x (.ins c dx [])) (fun v H2 => v = .non ∧ Q (.ref x) H2) (fun cls d H' => W cls d sg H')) :
    wpAny (model X.prog X.w) X.A (call (.ref c) us) (EP X pins sg Q) X.xe sh := by
  have hq := h (sh.heap.objs.size + 1) sh.heap.objs.size (I.hok.fresh (Nat.le_succ _)) (I.hok.fresh (Nat.le_refl _)) (Nat.ne_of_lt (Nat.lt_succ_self _))
  have I2 := Inv.made (C := c) I
  have r2 : Vals (V.ref (sh.heap.objs.size + 1) :: vs) (Value.ref (sh.heap.objs.size + 1) :: us) := .cons rfl r
  have hl : (Value.ref (sh.heap.objs.size + 1) :: us ++ []).length = ps.length := by
    rw [List.append_nil, ← r2.length]
    exact F.len _ _ _ _ hq
  have hb' := hb _ (Value.ref (sh.heap.objs.size + 1) :: us) I2.kIn hl
  rw [List.append_nil] at hb'
  refine wpAny_call (make_map (f := f) I.kIn M.makes M.init (beq_iff_eq.mp M.fn) (codeAny_mono (F.run _ X.stack _ _ ⟨Value.ref (sh.heap.objs.size + 1) :: us, []⟩ _ _ _ _ (hr.make c us []) (guards_make.trans hg) (I2.env0.make c us []) hb' r2 hq) fun res s2 hq2 => ?_))
  cases res with
  | error e => exact passAt tk sg pins _ _ e s2 I2 hq2
  | ok fl =>
    cases fl with
    | ret u =>
      obtain ⟨v, H', I3, rv, ev, q3⟩ := I2.after hq2
      subst ev
      exact ⟨rv, ⟨V.ref (sh.heap.objs.size + 1), H', I3, rfl, q3⟩⟩
    | next => exact hq2.elim
    | brk => exact hq2.elim
    | cont => exact hq2.elim
theorem pe_makeG {e : Expr} {es : List Expr} {t : TA} {p pos : Pos} (M : Mk X.K c f) (F : FnG X.prog X.w X.K X.mg X.base k f fd ps sp) (hr : Room (k + 1) X.A) (hg : X.A.guards = some []) (hgl : Gl X x) (hm : X.mg x = some (.ref c)) (hb : Binds X.K fd ps []) (tk : Takes X W)
    (ha : PA X (e :: es) t) (hdb : (x == ("__debug__" : Str)) = false) (hs : starEach (e :: es) X.env = (false, eval e X.env) :: starEach es X.env) (hp : (backTo pos (starEach es X.env)).any (·.1) = false) :
    PE X (.Call (.Name x p) (e :: es) [] pos) (tMakeG c sp W t) := by
  refine ⟨fun pins sh sg H Q I h => ?_⟩
  refine wpAny_Call_Name_kw (ld_glob I hgl hm ?_ hdb)
  refine PySem.W.callWith_K (h₀ := X.base) I.ok.mod.kin M.kp (thn (ha.run pos pins sh sg H _ I h) fun us s1 ⟨vs, H1, I1, r, q⟩ => ⟨I1.kIn, ?_⟩) hs hp
  exact runMakeG M F hr hg hb tk I1 r q
theorem pe_makeG0 {p pos : Pos} (M : Mk X.K c f) (F : FnG X.prog X.w X.K X.mg X.base k f fd ps sp) (hr : Room (k + 1) X.A) (hg : X.A.guards = some []) (hgl : Gl X x) (hm : X.mg x = some (.ref c)) (hb : Binds X.K fd ps []) (tk : Takes X W)
    (hdb : (x == ("__debug__" : Str)) = false) : PE X (.Call (.Name x p) [] [] pos) (tMakeG c sp W tNil) := by
  refine ⟨fun pins sh sg H Q I h => ?_⟩
  refine wpAny_Call_Name_kw (ld_glob I hgl hm ?_ hdb)
  exact PySem.W.callWith_K0 I.kIn M.kp (runMakeG (us := []) M F hr hg hb tk I .nil h)
end
/-! ### a def's body keeps its promise -/
theorem guards_deeper {A : Around} {env : Env} : (A.deeper env).guards = A.guards := rfl
theorem fn_ofG {P : Program} {w : World} {K : PySem.W.Frag} {mg : Str → Option Value} {base : Heap} {k : Nat} {f : Addr} {name qual : Str} {params : Arguments} {body : List Stmt} {scope : Scope} {dV kV doc pm cdv ct oc : Value} {an od : Option Addr}
    {osl : Array (Option Value)} {N ps : List Str} {sp : Sp} (lk : K.lookup f = some ⟨oc, od, .func (PySem.W.fnOf name qual params body scope dV kV doc pm an cdv ct), osl⟩) (hcd : PySem.W.codeIn K cdv qual = true) (S : FnScope N ps scope)
    (len : ∀ vs H Q E, sp vs H Q E → vs.length = ps.length)
    (hbody : ∀ (A : Around) (outer : List Env) (sh : Shared) (H : Hp) (vs : List V) (Q : VK) (E : XK), Room k (A.deeper (envOfC qual scope sh.heap.objs.size f cdv)) → A.guards = some [] → sp vs H Q E →
      ∃ t, PSs (cxOf (L2.CX P w) P w K mg base N qual scope f cdv A outer sh H E) body t ∧ t { nx := fun _ H' => Q .non H', rt := Q } (start N vs) H) :
    FnG P w K mg base (k + 1) f (PySem.W.fnOf name qual params body scope dV kV doc pm an cdv ct) ps sp := by
  refine ⟨len, fun A outer sh H args us vs Q E hr hg e0 hb r hsp => ?_⟩
  have hl := len _ _ _ _ hsp
  have KX : K.In sh.heap := e0.mod.kin.keeps fun b o e => (e0.bs b o e).1
  have lim : sh.heap.NoLimit := e0.mod.nolimit.keeps fun b o e => (e0.bs b o e).1
  have hkind : ∀ y ∈ ps.zip us, scope.names.lookup y.1 = some .local ∨ (scope.names.lookup y.1 = some .cell ∧ ((cellsFrom (sh.heap.objs.size + 1) scope.names []).lookup y.1).isSome = true) := fun ⟨n, v⟩ hy => by
    rcases S.par n (List.of_mem_zip hy).1 with q | q
    · exact .inl q
    · exact .inr ⟨q, PySem.W.cellsFrom_some _ _ _ (.inl q)⟩
  refine codeAny_call_function hr.depth (KX _ _ lk) rfl S.co S.gen rfl (PySem.W.codeRec_of KX hcd) (hb _ _ _ _ ?_)
  refine wpAny_newFunctionEnv_cells S.kind hkind fun env he s1 x => ?_
  subst he
  refine ⟨lim.keeps x.toInCall.keep, codeAny_func ?_⟩
  obtain ⟨t, ht, hq⟩ := hbody A outer sh H vs Q E (hr.deeper _) hg hsp
  have I : Inv (cxOf (L2.CX P w) P w K mg base N qual scope f cdv A outer sh H E) [] (start N vs) H s1 := inv_start S hr.hd e0 hl r x
  refine wpAny_mono (ht.run [] s1 (start N vs) H _ I hq) (fun fl s2 hs => ?_) fun e s2 hs => hs
  have fin : ∀ {sg' : L2.St} {H' : Hp} {v : V} {u : Value}, Inv (cxOf (L2.CX P w) P w K mg base N qual scope f cdv A outer sh H E) [] sg' H' s2 → RelV v u → Q v H' → CE outer P w H sh Q u s2 :=
    fun {sg' H' v u} J rv q => ⟨v, H', J.os, J.bare, J.base, J.hok, rv, q⟩
  cases fl with
  | ret u =>
    obtain ⟨v, sg', H', J, rv, q⟩ := hs
    exact fin J rv q
  | next =>
    obtain ⟨sg', H', J, q⟩ := hs
    exact fin (v := V.non) (u := Value.none) J rfl q
  | brk =>
    obtain ⟨_, _, _, q⟩ := hs
    exact q.elim
  | cont =>
    obtain ⟨_, _, _, q⟩ := hs
    exact q.elim
end PI
end

section
set_option Elab.async false
set_option linter.all false
set_option maxRecDepth 100000
/-! PyS6: what an expression of ours does, rule by rule. -/
namespace PI
open PySem PySem.Spec PyProof.Rows L2 TL
def RelF (K : PySem.W.Frag) (ca : Nat → Addr) (rho : List Addr) (H : Hp) (fr : Fr) (sg : L2.St) : Prop :=
  fr.length = sg.length ∧ ∀ (i : Nat) (v : Val), fr[i]? = some (some v) → ∃ u, sg[i]? = some (some u) ∧ VR K ca rho H v u
/-- the reading of a run, by what its end stands for -/
def tM (K : PySem.W.Frag) (ca : Nat → Addr) (xn : Xn) (W : WX) {α β : Type} (m : Fr → M α) (rel : List Addr → Hp → α → β → Prop) : L2.St → Hp → (β → Hp → Prop) → Prop := fun sg H Q =>
  ∃ (rho : List Addr) (fr : Fr) (s : S), RelS K ca rho s H ∧ RelF K ca rho H fr sg ∧
    Post K ca xn (m fr s) rho H (fun a rho' _ H' => ∀ b, rel rho' H' a b → Q b H') (fun cls d H' => W cls d sg H')
abbrev tI (K : PySem.W.Frag) (ca : Nat → Addr) (xn : Xn) (g : G) (W : WX) (e : E) : TE := tM K ca xn W (fun fr => ev g fr e) (fun rho H a b => VR K ca rho H a b)
abbrev tIs (K : PySem.W.Frag) (ca : Nat → Addr) (xn : Xn) (g : G) (W : WX) (e : Es) : TA := tM K ca xn W (fun fr => evs g fr e) (fun rho H a b => VRs K ca rho H a b)
abbrev tT (K : PySem.W.Frag) (ca : Nat → Addr) (xn : Xn) (g : G) (W : WX) (e : E) : TT := tM K ca xn W (fun fr => bnd (ev g fr e) truth) (fun _ _ a b => b = a)
theorem PE.weak {X : Cx} {e : Expr} {t t' : TE} (h : PE X e t) (k : ∀ sg H Q, t' sg H Q → t sg H Q) : PE X e t' := ⟨fun pins s sg H Q I q => h.run pins s sg H Q I (k sg H Q q)⟩
theorem PT.weak {X : Cx} {e : Expr} {t t' : TT} (h : PT X e t) (k : ∀ sg H Q, t' sg H Q → t sg H Q) : PT X e t' := ⟨fun pins s sg H Q I q => h.run pins s sg H Q I (k sg H Q q)⟩
theorem PA.weak {X : Cx} {e : List Expr} {t t' : TA} (h : PA X e t) (k : ∀ sg H Q, t' sg H Q → t sg H Q) : PA X e t' := ⟨fun p pins s sg H Q I q => h.run p pins s sg H Q I (k sg H Q q)⟩
section
variable {K : PySem.W.Frag} {ca : Nat → Addr} {xn : Xn} {W : WX} {rho : List Addr} {H : Hp} {s : S} {fr : Fr} {sg : L2.St} {α β γ : Type}
theorem RelF.mono {rho1 : List Addr} {H1 : Hp} (F : RelF K ca rho H fr sg) (R : RelS K ca rho s H) (x : Ext rho H rho1 H1) : RelF K ca rho1 H1 fr sg :=
  ⟨F.1, fun i v h => let ⟨u, e, r⟩ := F.2 i v h; ⟨u, e, r.mono R x⟩⟩
theorem RelF.set {i : Nat} {v : Val} {u : V} (F : RelF K ca rho H fr sg) (r : VR K ca rho H v u) : RelF K ca rho H (fr.set i (some v)) (sg.set i (some u)) := by
  refine ⟨by rw [List.length_set, List.length_set]; exact F.1, fun j w h => ?_⟩
  by_cases e : i = j
  · subst e
    by_cases hl : i < fr.length
    · rw [List.getElem?_set_self hl] at h
      cases h
      exact ⟨u, List.getElem?_set_self (by rw [← F.1]; exact hl), r⟩
    · rw [List.getElem?_eq_none (by rw [List.length_set]; omega)] at h
      cases h
  · rw [List.getElem?_set_ne e] at h ⊢
    exact F.2 j w h
theorem RelF.unset {i : Nat} (F : RelF K ca rho H fr sg) : RelF K ca rho H (fr.set i none) (sg.set i none) := by
  refine ⟨by rw [List.length_set, List.length_set]; exact F.1, fun j w h => ?_⟩
  by_cases e : i = j
  · subst e
    by_cases hl : i < fr.length
    · rw [List.getElem?_set_self hl] at h
      cases h
    · rw [List.getElem?_eq_none (by rw [List.length_set]; omega)] at h
      cases h
  · rw [List.getElem?_set_ne e] at h ⊢
    exact F.2 j w h
/-- a step, and what follows -/
theorem tM_bnd {m : Fr → M α} {f : α → M γ} {rel : List Addr → Hp → α → β → Prop} {Q' : γ → List Addr → S → Hp → Prop} {Q : β → Hp → Prop} (R : RelS K ca rho s H) (F : RelF K ca rho H fr sg)
    (h : Post K ca xn (PI.bnd (m fr) f s) rho H Q' (fun cls d H' => W cls d sg H'))
    (k : ∀ a b rho1 s1 H1, Ext rho H rho1 H1 → RelS K ca rho1 s1 H1 → RelF K ca rho1 H1 fr sg → rel rho1 H1 a b → Post K ca xn (f a s1) rho1 H1 Q' (fun cls d H' => W cls d sg H') → Q b H1) : tM K ca xn W m rel sg H Q :=
  ⟨rho, fr, s, R, F, h.bnd.imp fun a rho' s' H' x R' hq b hr => k a b rho' s' H' x R' (F.mono R x) hr hq⟩
end
section
variable {X : Cx} {ca : Nat → Addr} {xn : Xn} {g : G} {W : WX} {a b c : Expr} {ia ib ic : E} {pos : Pos} {es : List Expr} {ies : Es} {γ : Type}
theorem insOf_some {s : S} {v : Val} {c : Nat} {fs : List (Str × Val)} (h : insOf s v = some (c, fs)) : ∃ i, v = .ref i ∧ s.st[i]? = some (.ins c fs) := by
  unfold insOf at h
  split at h
  · split at h
    · cases h; exact ⟨_, rfl, by assumption⟩
    · cases h
  · cases h
theorem mem_of_look {f : Str} {v : Val} : ∀ {fs : List (Str × Val)}, fs.lookup f = some v → (f, v) ∈ fs
  | [], h => by cases h
  | (k, u) :: r, h => by
    by_cases e : f = k
    · subst e
      rw [List.lookup_cons_self] at h
      cases h; exact List.mem_cons_self
    · rw [List.lookup_cons, show (f == k) = false from beq_eq_false_iff_ne.mpr e] at h
      exact List.mem_cons_of_mem _ (mem_of_look h)
theorem FR.get {K : PySem.W.Frag} {rho : List Addr} {H : Hp} {f : Str} {v : Val} : ∀ {fs : List (Str × Val)} {gs : List (Str × V)}, FR K ca rho H fs gs → fs.lookup f = some v → ∃ u, gs.lookup f = some u ∧ VR K ca rho H v u
  | [], _, _, h => by cases h
  | (k, u) :: r, gs, h, h2 => by
    obtain ⟨w, q, rfl, h1, h3⟩ := h
    by_cases e : f = k
    · subst e
      rw [List.lookup_cons_self] at h2 ⊢
      cases h2; exact ⟨w, rfl, h1⟩
    · rw [List.lookup_cons, show (f == k) = false from beq_eq_false_iff_ne.mpr e] at h2 ⊢
      exact FR.get h3 h2
theorem FR.no {K : PySem.W.Frag} {rho : List Addr} {H : Hp} {f : Str} : ∀ {fs : List (Str × Val)} {gs : List (Str × V)}, FR K ca rho H fs gs → fs.lookup f = none → gs.lookup f = none
  | [], _, h, _ => by cases h; rfl
  | (k, u) :: r, gs, h, h2 => by
    obtain ⟨w, q, rfl, h1, h3⟩ := h
    by_cases e : f = k
    · subst e
      rw [List.lookup_cons_self] at h2
      cases h2
    · rw [List.lookup_cons, show (f == k) = false from beq_eq_false_iff_ne.mpr e] at h2 ⊢
      exact FR.no h3 h2
/-! ### constants, names, displays -/
theorem sE_k {v : Val} {e : Expr} (h : PE X e (tC (kv v))) (hk : kOk v = true) : PE X e (tI X.K ca xn g W (.k v)) :=
  PE.weak h fun sg H Q ⟨rho, fr, s, R, F, q⟩ => Post.ret R q _ (kv_ok hk)
theorem sE_var {i : Nat} {e : Expr} (h : PE X e (tVar i)) : PE X e (tI X.K ca xn g W (.var i)) :=
  PE.weak h fun sg H Q ⟨rho, fr, s, R, F, q⟩ => by
    simp only [ev] at q
    cases e : fr[i]? with
    | none => rw [e] at q; exact q.elim
    | some o =>
      cases o with
      | none => rw [e] at q; exact q.elim
      | some v =>
        rw [e] at q
        obtain ⟨u, e2, r⟩ := F.2 i v e
        exact ⟨u, e2, q.ret R _ r⟩
theorem sA_nil : PA X [] (tIs X.K ca xn g W .nil) := PA.weak pa_nil fun sg H Q ⟨rho, fr, s, R, F, q⟩ => q.ret R _ (by simp [VRs])
theorem sA_cons (ha : PE X a (tI X.K ca xn g W ia)) (hr : PA X es (tIs X.K ca xn g W ies)) (hs : starEach (a :: es) X.env = (false, eval a X.env) :: starEach es X.env) : PA X (a :: es) (tIs X.K ca xn g W (.cons ia ies)) :=
  PA.weak (pa_cons ha hr hs) fun sg H Q ⟨rho, fr, s, R, F, q⟩ => by
    simp only [evs] at q
    refine tM_bnd (rel := fun rho H a b => VR X.K ca rho H a b) R F q fun v u rho1 s1 H1 x1 R1 F1 r1 q => ?_
    refine tM_bnd (rel := fun rho H a b => VRs X.K ca rho H a b) R1 F1 q fun vs us rho2 s2 H2 x2 R2 F2 r2 q => ?_
    exact q.ret R2 _ (VRs.cons_iff.mpr ⟨u, us, rfl, r1.mono R1 x2, r2⟩)
theorem sE_tup {n : Nat} (h : PA X es (tIs X.K ca xn g W ies)) : PE X (.Tuple es n pos) (tI X.K ca xn g W (.tup ies)) :=
  PE.weak (pe_tupF h) fun sg H Q ⟨rho, fr, s, R, F, q⟩ => by
    simp only [ev] at q
    refine tM_bnd (rel := fun rho H a b => VRs X.K ca rho H a b) R F q fun vs us rho1 s1 H1 x1 R1 F1 r1 q => ?_
    obtain ⟨cc, q⟩ := Post.chk q
    exact ⟨by rw [← r1.len, ← lim_eq]; exact of_decide_eq_true cc, fun p o ho hp => PV.tup R1 r1 q ho hp⟩
theorem sE_lst (h : PA X es (tIs X.K ca xn g W ies)) : PE X (.List es pos) (tI X.K ca xn g W (.lst ies)) :=
  PE.weak (pe_lst h) fun sg H Q ⟨rho, fr, s, R, F, q⟩ => by
    simp only [ev] at q
    refine tM_bnd (rel := fun rho H a b => VRs X.K ca rho H a b) R F q fun vs us rho1 s1 H1 x1 R1 F1 r1 q => ?_
    obtain ⟨cc, q⟩ := Post.chk q
    exact ⟨by rw [← r1.len, ← lim_eq]; exact of_decide_eq_true cc, fun p hp => PV.lst R1 r1 q hp⟩
/-! ### operators -/
theorem sE_op {o : Op} (ha : PE X a (tI X.K ca xn g W ia)) (hb : PE X b (tI X.K ca xn g W ib)) : PE X (.BinOp a (oper o) b pos) (tI X.K ca xn g W (.op o ia ib)) :=
  PE.weak (pe_op (op_all o) ha hb) fun sg H Q ⟨rho, fr, s, R, F, q⟩ => by
    simp only [ev] at q
    refine tM_bnd (rel := fun rho H a b => VR X.K ca rho H a b) R F q fun v u rho1 s1 H1 x1 R1 F1 r1 q => ?_
    refine tM_bnd (rel := fun rho H a b => VR X.K ca rho H a b) R1 F1 q fun v2 u2 rho2 s2 H2 x2 R2 F2 r2 q => ?_
    exact s_op o R2 (r1.mono R1 x2) r2 q
theorem sE_neg (ha : PE X a (tI X.K ca xn g W ia)) : PE X (.UnaryOp .USub a pos) (tI X.K ca xn g W (.neg ia)) :=
  PE.weak (pe_un un_neg ha) fun sg H Q ⟨rho, fr, s, R, F, q⟩ => by
    simp only [ev] at q
    refine tM_bnd (rel := fun rho H a b => VR X.K ca rho H a b) R F q fun v u rho1 s1 H1 x1 R1 F1 r1 q => ?_
    cases v <;> first | exact q.elim | skip
    cases r1.int_of
    exact ⟨_, rfl, PV.int R1 q⟩
theorem Post.truth {K : PySem.W.Frag} {rho : List Addr} {H : Hp} {s : S} {v : Val} {u : V} {Q : Bool → List Addr → S → Hp → Prop} {E : Value → Option Addr → Hp → Prop} (R : RelS K ca rho s H) (r : VR K ca rho H v u) (q : Post K ca xn (truth v s) rho H Q E) : ∃ k, v = .bl k ∧ u = .bl k ∧ Q k rho s H := by
  cases v <;> first | exact q.elim | skip
  exact ⟨_, rfl, r.bl_of, q.ret R⟩
theorem sE_not (ha : PE X a (tI X.K ca xn g W ia)) : PE X (.UnaryOp .Not a pos) (tI X.K ca xn g W (.not ia)) :=
  PE.weak (pe_not ha) fun sg H Q ⟨rho, fr, s, R, F, q⟩ => by
    simp only [ev] at q
    refine tM_bnd (rel := fun rho H a b => VR X.K ca rho H a b) R F q fun v u rho1 s1 H1 x1 R1 F1 r1 q => ?_
    obtain ⟨k, rfl, rfl, q⟩ := Post.truth R1 r1 q.bnd
    exact ⟨k, rfl, PV.bl R1 q⟩
theorem bnd_truth_ite {fr : Fr} {f : Bool → M Val} : ∀ s, bnd (bnd (ev g fr ia) fun x => bnd (truth x) f) truth s = bnd (bnd (ev g fr ia) truth) (fun k => bnd (f k) truth) s := fun s => by
  rw [bnd_assoc, bnd_assoc]
  congr 1
  funext x s1
  rw [bnd_assoc]
theorem sT_not (ha : PT X a (tT X.K ca xn g W ia)) : PT X (.UnaryOp .Not a pos) (tT X.K ca xn g W (.not ia)) :=
  PT.weak (pt_not ha) fun sg H Q ⟨rho, fr, s, R, F, q⟩ => by
    simp only [ev] at q
    rw [bnd_truth_ite] at q
    refine tM_bnd (m := fun fr => bnd (ev g fr ia) truth) (rel := fun _ _ a b => b = a) R F q fun k k' rho1 s1 H1 x1 R1 F1 e q => ?_
    subst e
    exact q.ret R1 _ rfl
theorem sE_and {rest : List Expr} (ha : PE X a (tI X.K ca xn g W ia)) (hb : PE X (.BoolOp .And (b :: rest) pos) (tI X.K ca xn g W ib)) : PE X (.BoolOp .And (a :: b :: rest) pos) (tI X.K ca xn g W (.and ia ib)) :=
  PE.weak (pe_and ha hb) fun sg H Q ⟨rho, fr, s, R, F, q⟩ => by
    simp only [ev] at q
    refine tM_bnd (rel := fun rho H a b => VR X.K ca rho H a b) R F q fun v u rho1 s1 H1 x1 R1 F1 r1 q => ?_
    obtain ⟨k, rfl, rfl, q⟩ := Post.truth R1 r1 q.bnd
    refine ⟨k, rfl, ?_⟩
    cases k with
    | true => exact ⟨rho1, fr, s1, R1, F1, q⟩
    | false => exact PV.bl R1 q
theorem sE_or {rest : List Expr} (ha : PE X a (tI X.K ca xn g W ia)) (hb : PE X (.BoolOp .Or (b :: rest) pos) (tI X.K ca xn g W ib)) : PE X (.BoolOp .Or (a :: b :: rest) pos) (tI X.K ca xn g W (.or ia ib)) :=
  PE.weak (pe_or ha hb) fun sg H Q ⟨rho, fr, s, R, F, q⟩ => by
    simp only [ev] at q
    refine tM_bnd (rel := fun rho H a b => VR X.K ca rho H a b) R F q fun v u rho1 s1 H1 x1 R1 F1 r1 q => ?_
    obtain ⟨k, rfl, rfl, q⟩ := Post.truth R1 r1 q.bnd
    refine ⟨k, rfl, ?_⟩
    cases k with
    | true => exact PV.bl R1 q
    | false => exact ⟨rho1, fr, s1, R1, F1, q⟩
theorem sW_and {rest : List Expr} (ha : PT X a (tT X.K ca xn g W ia)) (hb : PW X (.BoolOp .And (b :: rest) pos) (tT X.K ca xn g W ib)) : PW X (.BoolOp .And (a :: b :: rest) pos) (tT X.K ca xn g W (.and ia ib)) := by
  refine ⟨fun wh pins sh sg H Q I ⟨rho, fr, s, R, F, q⟩ => (pw_and ha hb).run wh pins sh sg H Q I ?_⟩
  simp only [ev] at q
  rw [bnd_truth_ite] at q
  refine tM_bnd (m := fun fr => bnd (ev g fr ia) truth) (rel := fun _ _ a b => b = a) R F q fun k k' rho1 s1 H1 x1 R1 F1 e q => ?_
  subst e
  cases k' with
  | true => exact ⟨rho1, fr, s1, R1, F1, q⟩
  | false => exact q.ret R1 _ rfl
theorem sW_or {rest : List Expr} (ha : PT X a (tT X.K ca xn g W ia)) (hb : PW X (.BoolOp .Or (b :: rest) pos) (tT X.K ca xn g W ib)) : PW X (.BoolOp .Or (a :: b :: rest) pos) (tT X.K ca xn g W (.or ia ib)) := by
  refine ⟨fun wh pins sh sg H Q I ⟨rho, fr, s, R, F, q⟩ => (pw_or ha hb).run wh pins sh sg H Q I ?_⟩
  simp only [ev] at q
  rw [bnd_truth_ite] at q
  refine tM_bnd (m := fun fr => bnd (ev g fr ia) truth) (rel := fun _ _ a b => b = a) R F q fun k k' rho1 s1 H1 x1 R1 F1 e q => ?_
  subst e
  cases k' with
  | true => exact q.ret R1 _ rfl
  | false => exact ⟨rho1, fr, s1, R1, F1, q⟩
theorem sE_ite (hc : PT X c (tT X.K ca xn g W ic)) (ha : PE X a (tI X.K ca xn g W ia)) (hb : PE X b (tI X.K ca xn g W ib)) : PE X (.IfExp c a b pos) (tI X.K ca xn g W (.ite ic ia ib)) :=
  PE.weak (pe_ifExp hc ha hb) fun sg H Q ⟨rho, fr, s, R, F, q⟩ => by
    simp only [ev] at q
    rw [← bnd_assoc] at q
    refine tM_bnd (m := fun fr => bnd (ev g fr ic) truth) (rel := fun _ _ a b => b = a) R F q fun k k' rho1 s1 H1 x1 R1 F1 e q => ?_
    subst e
    cases k' with
    | true => exact ⟨rho1, fr, s1, R1, F1, q⟩
    | false => exact ⟨rho1, fr, s1, R1, F1, q⟩
/-- a value that is a truth value, as a test -/
theorem sT_val (h : PE X a (tI X.K ca xn g W ia)) (he : ∀ whole, isTrue a X.env whole = (do let v ← whole; standAt a.pos; holding [v] (truthy v))) : PT X a (tT X.K ca xn g W ia) :=
  PT.weak (pt_val h he) fun sg H Q ⟨rho, fr, s, R, F, q⟩ => by
    refine tM_bnd (rel := fun rho H a b => VR X.K ca rho H a b) R F q fun v u rho1 s1 H1 x1 R1 F1 r1 q => ?_
    obtain ⟨k, rfl, rfl, q⟩ := Post.truth R1 r1 q
    exact ⟨k, rfl, q _ rfl⟩
/-! ### comparisons -/
theorem rCp_gen {o : Cp} {Fk : Bool → M γ} {rho : List Addr} {H : Hp} {s : S} {fr : Fr} {sg : L2.St} {Q' : γ → List Addr → S → Hp → Prop} {Q : VK} (hn : o = .isN ∨ o = .notN → ib = .k .non)
    (R : RelS X.K ca rho s H) (F : RelF X.K ca rho H fr sg) (q : Post X.K ca xn (bnd (ev g fr ia) (fun x => bnd (ev g fr ib) fun y => bnd (cmpv g o x y) Fk) s) rho H Q' (fun cls d H' => W cls d sg H'))
    (hk : ∀ k rho1 s1 H1, RelS X.K ca rho1 s1 H1 → Post X.K ca xn (Fk k s1) rho1 H1 Q' (fun cls d H' => W cls d sg H') → Q (.bl k) H1) :
    tOp (rCp ca xn g X.K o) (tI X.K ca xn g W ia) (tI X.K ca xn g W ib) sg H Q := by
  refine tM_bnd (rel := fun rho H a b => VR X.K ca rho H a b) R F q fun v u rho1 s1 H1 x1 R1 F1 r1 q => ?_
  by_cases ho : o = .isN ∨ o = .notN
  · have e := hn ho
    subst e
    have q : Post X.K ca xn (bnd (cmpv g o v .non) Fk s1) rho1 H1 Q' (fun cls d H' => W cls d sg H') := by simp only [ev] at q; exact q
    refine ⟨rho1, fr, s1, R1, F1, ?_⟩
    simp only [ev]
    intro rho2 H2 x2 R2 b hb
    exact s_cmp o (fun _ => rfl) R2 (r1.mono R1 x2) hb ((q.ext x2).bnd.imp fun k rho3 s3 H3 x3 R3 q => hk k rho3 s3 H3 R3 q)
  · refine tM_bnd (rel := fun rho H a b => VR X.K ca rho H a b) R1 F1 q fun v2 u2 rho2 s2 H2 x2 R2 F2 r2 q => ?_
    exact s_cmp o (fun z => absurd z ho) R2 (r1.mono R1 x2) r2 (q.bnd.imp fun k rho3 s3 H3 x3 R3 q => hk k rho3 s3 H3 R3 q)
theorem sE_cmp {o : Cp} (hcp : ∀ o : Cp, OpR X (compareOp (cper o)) (rCp ca xn g X.K o)) (hn : o = .isN ∨ o = .notN → ib = .k .non) (hm : behindInMarks (cper o) b = false) (ha : PE X a (tI X.K ca xn g W ia)) (hb : PE X b (tI X.K ca xn g W ib)) :
    PE X (.Compare a [cper o] [b] pos) (tI X.K ca xn g W (.cmp o ia ib)) :=
  PE.weak (pe_cmpR (hcp o) ha hb hm) fun sg H Q ⟨rho, fr, s, R, F, q⟩ => by
    simp only [ev] at q
    exact rCp_gen hn R F q fun k rho1 s1 H1 R1 q => PV.bl R1 q
theorem sT_cmp {o : Cp} (hcp : ∀ o : Cp, OpR X (compareOp (cper o)) (rCp ca xn g X.K o)) (hn : o = .isN ∨ o = .notN → ib = .k .non) (hm : behindInMarks (cper o) b = false) (ha : PE X a (tI X.K ca xn g W ia)) (hb : PE X b (tI X.K ca xn g W ib)) :
    PT X (.Compare a [cper o] [b] pos) (tT X.K ca xn g W (.cmp o ia ib)) :=
  PT.weak (pt_cmpR (hcp o) ha hb hm) fun sg H Q ⟨rho, fr, s, R, F, q⟩ => by
    simp only [ev] at q
    have e : bnd (bnd (ev g fr ia) fun x => bnd (ev g fr ib) fun y => bnd (cmpv g o x y) fun k => ret (Val.bl k)) truth s = bnd (ev g fr ia) (fun x => bnd (ev g fr ib) fun y => bnd (cmpv g o x y) fun k => ret k) s := by
      rw [bnd_assoc]
      congr 1
      funext x s1
      rw [bnd_assoc]
      congr 1
      funext y s2
      rw [bnd_assoc]
      rfl
    rw [e] at q
    exact rCp_gen hn R F q fun k rho1 s1 H1 R1 q => ⟨k, rfl, q.ret R1 _ rfl⟩
theorem sE_chain {o o2 : Cp} (hcp : ∀ o : Cp, OpR X (compareOp (cper o)) (rCp ca xn g X.K o)) (hn : ¬ (o = .isN ∨ o = .notN)) (hn2 : ¬ (o2 = .isN ∨ o2 = .notN)) (hm : behindInMarks (cper o2) c = false) (ha : PE X a (tI X.K ca xn g W ia)) (hb : PE X b (tI X.K ca xn g W ib)) (hc : PE X c (tI X.K ca xn g W ic)) :
    PE X (.Compare a [cper o, cper o2] [b, c] pos) (tI X.K ca xn g W (.chain o o2 ia ib ic)) :=
  PE.weak (pe_chain (hcp o) (hcp o2) ha hb hc hm) fun sg H Q ⟨rho, fr, s, R, F, q⟩ => by
    simp only [ev] at q
    refine tM_bnd (rel := fun rho H a b => VR X.K ca rho H a b) R F q fun v u rho1 s1 H1 x1 R1 F1 r1 q => ?_
    refine tM_bnd (rel := fun rho H a b => VR X.K ca rho H a b) R1 F1 q fun v2 u2 rho2 s2 H2 x2 R2 F2 r2 q => ?_
    refine s_cmp o (fun z => absurd z hn) R2 (r1.mono R1 x2) r2 (q.bnd.imp fun k rho3 s3 H3 x3 R3 q => ⟨k, rfl, ?_⟩)
    cases k with
    | false => exact PV.bl R3 q
    | true =>
      refine tM_bnd (rel := fun rho H a b => VR X.K ca rho H a b) R3 (F2.mono R2 x3) q fun v4 u4 rho4 s4 H4 x4 R4 F4 r4 q => ?_
      exact s_cmp o2 (fun z => absurd z hn2) R4 ((r2.mono R2 x3).mono R3 x4) r4 (q.bnd.imp fun k rho5 s5 H5 x5 R5 q => PV.bl R5 q)
/-! ### an index, a slice -/
theorem sE_idx (hs : PlainIx b) (ha : PE X a (tI X.K ca xn g W ia)) (hb : PE X b (tI X.K ca xn g W ib)) : PE X (.Subscript a b pos) (tI X.K ca xn g W (.idx ia ib)) :=
  PE.weak (pe_ix ix_seq ha hb hs) fun sg H Q ⟨rho, fr, s, R, F, q⟩ => by
    simp only [ev] at q
    refine tM_bnd (rel := fun rho H a b => VR X.K ca rho H a b) R F q fun v u rho1 s1 H1 x1 R1 F1 r1 q => ?_
    refine tM_bnd (rel := fun rho H a b => VR X.K ca rho H a b) R1 F1 q fun v2 u2 rho2 s2 H2 x2 R2 F2 r2 q => ?_
    exact s_idx R2 (r1.mono R1 x2) r2 q
theorem sE_rev {k : Nat} {p1 p2 p3 : Pos} (ha : PE X a (tI X.K ca xn g W ia)) : PE X (.Subscript a (.Slice none none (some (.UnaryOp .USub (.Constant (.int 1) k p1) p2)) p3) pos) (tI X.K ca xn g W (.rev ia)) :=
  PE.weak (pe_revL ha) fun sg H Q ⟨rho, fr, s, R, F, q⟩ => by
    simp only [ev] at q
    refine tM_bnd (rel := fun rho H a b => VR X.K ca rho H a b) R F q fun v u rho1 s1 H1 x1 R1 F1 r1 q => ?_
    cases v <;> first | exact q.elim | skip
    obtain ⟨p, rfl, g1⟩ := r1.ref_of
    obtain ⟨xs, ws, e1, e2, r2, q⟩ := Post.lookL R1 g1 q
    exact ⟨p, ws, rfl, SqL.of e2, fun l hl => PV.lst R1 r2.reverse q hl⟩
theorem sE_fld {f : Str} (hb : attributeBase a f X.env (eval a X.env) = eval a X.env) (ha : PE X a (tI X.K ca xn g W ia)) : PE X (.Attribute a f pos) (tI X.K ca xn g W (.attr ia f)) :=
  PE.weak (pe_fld ha hb) fun sg H Q ⟨rho, fr, s, R, F, q⟩ => by
    simp only [ev] at q
    refine tM_bnd (rel := fun rho H a b => VR X.K ca rho H a b) R F q fun v u rho1 s1 H1 x1 R1 F1 r1 q => ?_
    cases e : insOf s1 v with
    | none => rw [e] at q; exact q.elim
    | some p =>
      obtain ⟨c, fs⟩ := p
      rw [e] at q
      simp only at q
      cases e2 : fs.lookup f with
      | none => rw [e2] at q; exact q.elim
      | some w =>
        rw [e2] at q
        obtain ⟨i, rfl, e3⟩ := insOf_some e
        obtain ⟨p, rfl, g1⟩ := r1.ref_of
        obtain ⟨dx, gs, h1, h2, h3, h4⟩ := R1.at_ i _ p e3 g1
        obtain ⟨z, k1, k2⟩ := h2.get e2
        exact ⟨p, _, dx, gs, z, rfl, h1, h3, h4 (f, w) (mem_of_look e2), k1, q rho1 H1 Ext.rfl' R1 _ k2⟩
theorem sE_bf {x : Str} {p : Pos} {e : Expr} {bf : Bf} (hc : X.calm = true) (M : More X ca xn g) (hb : fusB bf = false) (hg : Gl X x) (hm : X.mg x = none) (hv : bootBuiltins x = some (fBf bf)) (hn : (x == "__name__") = false) (hd : (x == ("__debug__" : Str)) = false)
    (he : starEach (e :: es) X.env = (false, eval e X.env) :: starEach es X.env) (hpl : (backTo pos (starEach es X.env)).any (·.1) = false) (ha : PA X (e :: es) (tIs X.K ca xn g W ies)) : PE X (.Call (.Name x p) (e :: es) [] pos) (tI X.K ca xn g W (.bf bf ies)) := by
  have hn' : x ≠ "__name__" := fun z => by rw [z] at hn; simp at hn
  have hcr := bf_all hc M bf hb
  have key : PE X (.Call (.Name x p) (e :: es) [] pos) (tCB (rBf ca xn g X.K bf) (tIs X.K ca xn g W ies)) := by
    cases bf <;> first | exact pe_callB hcr hg hm hv ha hn' hd he hpl | exact pe_callTy hcr hg hm hv ha hn' hd he hpl | (cases hb; done)
  refine PE.weak key fun sg H Q ⟨rho, fr, s, R, F, q⟩ => ?_
  simp only [ev] at q
  refine tM_bnd (rel := fun rho H a b => VRs X.K ca rho H a b) R F q fun vs us rho1 s1 H1 x1 R1 F1 r1 q => ?_
  exact s_bf bf R1 r1 q
end
end PI
end

section
set_option Elab.async false
set_option linter.all false
set_option maxRecDepth 100000
/-! PyS7: slices, calls, methods. -/
namespace PI
open PySem PySem.Spec PyProof.Rows L2 TL
/-! ### argument lists without stars -/
def noStar : Expr → Bool
  | .Starred _ _ => false
  | _ => true
theorem star_cons {e : Expr} (h : noStar e = true) (es : List Expr) (env : Env) : starEach (e :: es) env = (false, eval e env) :: starEach es env := by
  cases e <;> first | rfl | cases h
theorem star_any (pos : Pos) (env : Env) : ∀ {es : List Expr}, es.all noStar = true → (backTo pos (starEach es env)).any (·.1) = false
  | [], _ => rfl
  | e :: r, h => by
    rw [List.all_cons, Bool.and_eq_true] at h
    rw [star_cons h.1]
    have := star_any pos env h.2
    simpa [backTo] using this
theorem star_all (pos : Pos) (env : Env) : ∀ {es : List Expr}, es.all noStar = true → (backTo pos (starEach es env)).all (fun x => !x.1) = true
  | [], _ => rfl
  | e :: r, h => by
    rw [List.all_cons, Bool.and_eq_true] at h
    rw [star_cons h.1]
    have := star_all pos env h.2
    simpa [backTo] using this
def fewArgs (es : List Expr) : Bool := es.all noStar && decide (es.length < 30)
theorem few_ok {es : List Expr} (h : fewArgs es = true) (pos : Pos) (env : Env) : ((backTo pos (starEach es env)).all (fun x => !x.1) && (backToKw pos (keywordEach [] env)).all (fun x => x.1.isSome)
      && decide (es.length + ([] : List Keyword).length + (if ([] : List Keyword).isEmpty then 0 else 1) < 30)) = true := by
  unfold fewArgs at h
  rw [Bool.and_eq_true] at h
  rw [star_all pos env h.1]
  have := of_decide_eq_true h.2
  simp [backToKw, keywordEach, this]
/-- the base of an attribute is no call -/
def noCall : Expr → Bool
  | .Call _ _ _ _ => false
  | _ => true
theorem base_ok {o : Expr} (h : noCall o = true) (m : Str) (env : Env) : attributeBase o m env (eval o env) = eval o env := by
  cases o <;> first | rfl | cases h
def plOf (o : Expr) (env : Env) : Sem Bool := do return (← importBound o env).getD true
theorem mtform {X : Cx} {o : Expr} {m : Str} {apos pos : Pos} {args : List Expr} (hb : attributeBase o m X.env (eval o X.env) = eval o X.env) (hf : fewArgs args = true) (hl : (apos.endLine == pos.line) = true) : MtForm X o m apos pos args (plOf o X.env) := by
  unfold MtForm
  rw [arm_eval_Call, hb]
  have hform : methodCallForm (args.length + ([] : List Keyword).length) (backTo pos (starEach args X.env)) (backToKw pos (keywordEach [] X.env)) = true := few_ok hf pos X.env
  have hpos : methodCallPos true o X.env apos pos = pure pos := by unfold methodCallPos; simp [hl]
  unfold methodCall calleeOf
  rw [hform, hpos]
  rfl
section
variable {X : Cx} {ca : Nat → Addr} {xn : Xn} {g : G} {W : WX} {a b c : Expr} {ia ib ic : E} {pos : Pos} {es : List Expr} {ies : Es}
/-! ### a slice -/
def tOi (K : PySem.W.Frag) (ca : Nat → Addr) (xn : Xn) (g : G) (W : WX) (e : E) : TO := tM K ca xn W (fun fr => match e with
    | .no => ret none
    | _ => intM (ev g fr e)) (fun _ _ a b => b = a)
def loOk : Option Expr → E → Bool
  | none, .no => true
  | some _, .no => false
  | some _, _ => true
  | none, _ => false
theorem sO_none : PO X none (tOi X.K ca xn g W .no) :=
  ⟨fun pins sh sg H Q I ⟨rho, fr, s, R, F, q⟩ => po_none.run pins sh sg H Q I (q.ret R _ rfl)⟩
theorem sO_some (hn : loOk (some a) ia = true) (ha : PE X a (tI X.K ca xn g W ia)) : PO X (some a) (tOi X.K ca xn g W ia) := by
  refine ⟨fun pins sh sg H Q I ⟨rho, fr, s, R, F, q⟩ => (po_some ha).run pins sh sg H Q I ?_⟩
  have q : Post X.K ca xn (intM (ev g fr ia) s) rho H (fun a rho' _ H' => ∀ b, b = a → Q b H') (fun cls d H' => W cls d sg H') := by
    cases ia <;> first | exact q | cases hn
  unfold intM at q
  refine tM_bnd (rel := fun rho H a b => VR X.K ca rho H a b) R F q fun v u rho1 s1 H1 x1 R1 F1 r1 q => ?_
  cases v <;> first | exact q.elim | skip
  exact ⟨_, r1.int_of, q.ret R1 _ rfl⟩
theorem sE_slc {lo hi : Option Expr} {il ih : E} {p2 : Pos} (ha : PE X a (tI X.K ca xn g W ia)) (hl : PO X lo (tOi X.K ca xn g W il)) (hh : PO X hi (tOi X.K ca xn g W ih)) : PE X (.Subscript a (.Slice lo hi none p2) pos) (tI X.K ca xn g W (.slc ia il ih)) :=
  PE.weak (pe_slice sl_all ha hl hh) fun sg H Q ⟨rho, fr, s, R, F, q⟩ => by
    simp only [ev] at q
    refine tM_bnd (rel := fun rho H a b => VR X.K ca rho H a b) R F q fun v u rho1 s1 H1 x1 R1 F1 r1 q => ?_
    refine tM_bnd (m := fun fr => match il with | .no => ret none | _ => intM (ev g fr il)) (rel := fun _ _ a b => b = a) R1 F1 q fun l l' rho2 s2 H2 x2 R2 F2 e q => ?_
    subst e
    refine tM_bnd (m := fun fr => match ih with | .no => ret none | _ => intM (ev g fr ih)) (rel := fun _ _ a b => b = a) R2 F2 q fun h h' rho3 s3 H3 x3 R3 F3 e q => ?_
    subst e
    exact s_slc R3 ((r1.mono R1 x2).mono R2 x3) q
/-! ### calls -/
/-- what a def of ours promises: what its run does -/
def SpI (K : PySem.W.Frag) (ca : Nat → Addr) (xn : Xn) (call : List Val → M Val) (n : Nat) : Sp := fun vs H Q E => vs.length = n ∧ ∃ (rho : List Addr) (s : S) (xs : List Val), RelS K ca rho s H ∧ VRs K ca rho H xs vs ∧ PV K ca xn (call xs s) rho H Q E
/-- the wrong number of arguments: nothing is known -/
def Few (call : List Val → M Val) (n : Nat) : Prop := ∀ xs s, xs.length ≠ n → call xs s = .bad
theorem spi_of {K : PySem.W.Frag} {call : List Val → M Val} {n : Nat} {vs : List V} {H : Hp} {Q : VK} {E : XK} {rho : List Addr} {s : S} {xs : List Val} (hf : Few call n) (R : RelS K ca rho s H) (r : VRs K ca rho H xs vs) (q : PV K ca xn (call xs s) rho H Q E) : SpI K ca xn call n vs H Q E := by
  refine ⟨?_, rho, s, xs, R, r, q⟩
  by_cases e : xs.length = n
  · rw [← e, r.len]
  · rw [hf xs s e] at q
    exact q.elim
theorem sp_call {f : Nat} {n : Nat} (hf : Few (g.call f) n) {sg : L2.St} {H : Hp} {Q : VK} (h : tI X.K ca xn g W (.call f ies) sg H Q) : tCallG (SpI X.K ca xn (g.call f) n) W (tIs X.K ca xn g W ies) sg H Q := by
  obtain ⟨rho, fr, s, R, F, q⟩ := h
  simp only [ev] at q
  refine tM_bnd (rel := fun rho H a b => VRs X.K ca rho H a b) R F q fun vs us rho1 s1 H1 x1 R1 F1 r1 q => ?_
  exact spi_of hf R1 r1 q
theorem Post.allocI {K : PySem.W.Frag} {rho : List Addr} {H : Hp} {s : S} {c : Nat} {α : Type} {f : Val → M α} {Q : α → List Addr → S → Hp → Prop} {E : Value → Option Addr → Hp → Prop} (R : RelS K ca rho s H) (hc : Cls K (ca c)) (q : Post K ca xn (PI.bnd (PI.alloc (Ob.ins c [])) f s) rho H Q E) {x dx : Addr} (h1 : H x = none) (h2 : H dx = none) (h3 : dx ≠ x) :
    ∃ s', Ext rho H (rho ++ [x]) (upd (upd H dx (.own x)) x (.ins (ca c) dx [])) ∧ RelS K ca (rho ++ [x]) s' (upd (upd H dx (.own x)) x (.ins (ca c) dx [])) ∧ VR K ca (rho ++ [x]) (upd (upd H dx (.own x)) x (.ins (ca c) dx [])) (.ref s.st.length) (.ref x) ∧
      Post K ca xn (f (.ref s.st.length) s') (rho ++ [x]) (upd (upd H dx (.own x)) x (.ins (ca c) dx [])) Q E := by
  have x1 : Ext rho H rho (upd H dx (.own x)) := nothing_upd R h2
  have R1 : RelS K ca rho s (upd H dx (.own x)) := R.other h2
  have h1' : upd H dx (.own x) x = none := by rw [upd_ne (fun e => h3 e.symm)]; exact h1
  have x2 := ext_new (o := HO.ins (ca c) dx []) R1 h1'
  have R2 : RelS K ca (rho ++ [x]) ⟨s.st ++ [Ob.ins c []], s.w⟩ (upd (upd H dx (.own x)) x (.ins (ca c) dx [])) := RelS.new (o := HO.ins (ca c) dx []) (ob := Ob.ins c []) R1 h1' ⟨dx, [], upd_same, rfl, hc, fun p m => by cases m⟩
  refine ⟨_, x1.trans x2, R2, ?_, ?_⟩
  · simp only [VR]
    exact ⟨x, rfl, by rw [← R.len]; simp⟩
  · have q := q.bnd
    exact q _ _ (x1.trans x2) R2
theorem sp_make {c f n : Nat} (hf : Few (g.call f) n) (hc : Cls X.K (ca c)) (hi : (g.pg.cs c).bind (·.init) = some f) {sg : L2.St} {H : Hp} {Q : VK} (h : tI X.K ca xn g W (.make c ies) sg H Q) : tMakeG (ca c) (SpI X.K ca xn (g.call f) n) W (tIs X.K ca xn g W ies) sg H Q := by
  obtain ⟨rho, fr, s, R, F, q⟩ := h
  simp only [ev, hi] at q
  refine tM_bnd (rel := fun rho H a b => VRs X.K ca rho H a b) R F q fun vs us rho1 s1 H1 x1 R1 F1 r1 q => ?_
  intro x dx h1 h2 h3
  obtain ⟨s2, x2, R2, r2, q⟩ := Post.allocI R1 hc q h1 h2 h3
  refine spi_of (xs := .ref s1.st.length :: vs) hf R2 (VRs.cons_iff.mpr ⟨_, us, rfl, r2, r1.mono R1 x2⟩) (q.bnd.imp fun v rho3 s3 H3 x3 R3 q w hw => ?_)
  cases v <;> first | exact q.elim | skip
  exact ⟨hw.non_of, q.ret R3 _ (r2.mono R2 x3)⟩
/-! ### methods of one's own classes: the class is the object's -/
def tMethD (X : Cx) (m : Str) (W : WX) (k : Nat) (ta : TE) (t : TA) : TE := fun sg H Q => ta sg H fun x H1 => ∃ (a C dx f : Addr) (fs : List (Str × V)) (fd : FuncData) (ps : List Str) (sp : Sp), x = .ref a ∧ H1 a = some (.ins C dx fs) ∧ fs.lookup m = none ∧ Cls X.K C ∧ Meth X.K C m f ∧
  FnG X.prog X.w X.K X.mg X.base k f fd ps sp ∧ Binds X.K fd ps [] ∧ t sg H1 fun vs H2 => sp (x :: vs) H2 Q (fun cls d H' => W cls d sg H')
theorem pe_methD {k : Nat} {m : Str} {o e : Expr} {es : List Expr} {ta : TE} {t : TA} {apos pos : Pos} {pl : Sem Bool} (he : PE X o ta) (hr : Room k X.A) (hg : X.A.guards = some []) (tk : Takes X W)
    (ha : PA X (e :: es) t) (hs : starEach (e :: es) X.env = (false, eval e X.env) :: starEach es X.env) (hp : (backTo pos (starEach es X.env)).any (·.1) = false) (ht : MtForm X o m apos pos (e :: es) pl) :
    PE X (.Call (.Attribute o m apos) (e :: es) [] pos) (tMethD X m W k ta t) := by
  refine ⟨fun pins sh sg H Q I h => ?_⟩
  refine PySem.W.methodCall_KW (pl := pl) (thn (he.run pins sh sg H _ I h) fun u s1 ⟨x, H1, I1, rx, a, C, dx, f, fs, fd, ps, sp, ex, ea, l, hc, hm, F, hb, q⟩ => ?_) ht
  subst ex
  obtain rfl : u = Value.ref a := rx
  refine getmeth_ok I1 ea hc hm l ?_
  refine PySem.W.callWith_K (first := [.ref a]) (h₀ := X.base) I.ok.mod.kin hm.kp (thn (ha.run pos pins s1 sg H1 _ I1 q) fun us s2 ⟨vs, H2, I2, r, q2⟩ => ⟨I2.kIn, ?_⟩) hs hp
  exact runG (us := .ref a :: us) (vs := .ref a :: vs) F hr hg hb tk I2 (.cons rfl r) q2
theorem pe_methD0 {k : Nat} {m : Str} {o : Expr} {ta : TE} {apos pos : Pos} {pl : Sem Bool} (he : PE X o ta) (hr : Room k X.A) (hg : X.A.guards = some []) (tk : Takes X W)
    (ht : MtForm X o m apos pos [] pl) : PE X (.Call (.Attribute o m apos) [] [] pos) (tMethD X m W k ta tNil) := by
  refine ⟨fun pins sh sg H Q I h => ?_⟩
  refine PySem.W.methodCall_KW (pl := pl) (thn (he.run pins sh sg H _ I h) fun u s1 ⟨x, H1, I1, rx, a, C, dx, f, fs, fd, ps, sp, ex, ea, l, hc, hm, F, hb, q⟩ => ?_) ht
  subst ex
  obtain rfl : u = Value.ref a := rx
  refine getmeth_ok I1 ea hc hm l ?_
  exact PySem.W.callWith_K0 (first := [.ref a]) I1.kIn hm.kp (runG (us := [.ref a]) (vs := [.ref a]) F hr hg hb tk I1 (.cons rfl .nil) q)
/-- what the classes' methods are -/
def Mts (X : Cx) (ca : Nat → Addr) (xn : Xn) (g : G) (k : Nat) : Prop := ∀ (c : Nat) (m : Str) (f : Nat), (g.pg.cs c).bind (·.ms.lookup m) = some f → ∃ (a : Addr) (fd : FuncData) (ps : List Str), Meth X.K (ca c) m a ∧ FnG X.prog X.w X.K X.mg X.base k a fd ps (SpI X.K ca xn (g.call f) ps.length) ∧ Binds X.K fd ps [] ∧ Few (g.call f) ps.length
theorem no_field {K : PySem.W.Frag} {C f : Addr} {m : Str} {fs : List (Str × Val)} (hm : Meth K C m f) (hn : ∀ p ∈ fs, NoAttr K C p.1) : fs.lookup m = none := by
  cases e : fs.lookup m with
  | none => rfl
  | some v =>
    have := hn _ (mem_of_look e)
    have h2 := hm.at_
    unfold NoAttr at this
    rw [this] at h2
    cases h2
theorem sp_meth {k : Nat} {m : Str} (M : Mts X ca xn g k) {sg : L2.St} {H : Hp} {Q : VK} (h : tI X.K ca xn g W (.meth ia m ies) sg H Q) : tMethD X m W k (tI X.K ca xn g W ia) (tIs X.K ca xn g W ies) sg H Q := by
  obtain ⟨rho, fr, s, R, F, q⟩ := h
  simp only [ev] at q
  refine tM_bnd (rel := fun rho H a b => VR X.K ca rho H a b) R F q fun v u rho1 s1 H1 x1 R1 F1 r1 q => ?_
  cases e : insOf s1 v with
  | none => rw [e] at q; exact q.elim
  | some p =>
    obtain ⟨c, fs⟩ := p
    rw [e] at q
    simp only at q
    cases e2 : (g.pg.cs c).bind (·.ms.lookup m) with
    | none => rw [e2] at q; exact q.elim
    | some f =>
      rw [e2] at q
      obtain ⟨i, rfl, e3⟩ := insOf_some e
      obtain ⟨p, rfl, g1⟩ := r1.ref_of
      obtain ⟨dx, gs, h1, h2, h3, h4⟩ := R1.at_ i _ p e3 g1
      obtain ⟨a, fd, ps, hm, hF, hb, hw⟩ := M c m f e2
      refine ⟨p, _, dx, a, gs, fd, ps, _, rfl, h1, h2.no (no_field hm h4), h3, hm, hF, hb, ?_⟩
      refine tM_bnd (rel := fun rho H a b => VRs X.K ca rho H a b) R1 F1 q fun vs us rho2 s2 H2 x2 R2 F2 r2 q => ?_
      exact spi_of hw R2 (VRs.cons_iff.mpr ⟨_, us, rfl, r1.mono R1 x2, r2⟩) q
/-! ### a static method, by its class -/
structure StM (K : PySem.W.Frag) (C : Addr) (m : Str) (f : Addr) : Prop where
  spec : PySem.W.specialIn K (.ref C) "__getattribute__" = some (some (.builtin "type.__getattribute__"))
  ty : PySem.W.typeIn K (.ref C) = some (.type "type")
  rd : PySem.W.readsIn K C (.type "type") = true
  at_ : ∃ p rest, PySem.W.findCls K (.ref C) (.type "type") m = some (.get (.builtin "staticmethod.__get__") (.ref p) .none (.ref C)) ∧ PySem.W.recIn K p "staticmethod" = some (.ref f :: rest)
  kp : PySem.W.keepIn K (.ref f) = true
theorem getstat_ok {pins : List (Addr × Obj)} {sg : L2.St} {H : Hp} {sh : Shared} {C f : Addr} {m : Str} {pl : Sem Bool} {Q : Value × List Value → Shared → Prop} {E : Value → Shared → Prop} (I : Inv X pins sg H sh) (S : StM X.K C m f) (h : ∀ tk, Q (.ref f, []) { sh with toks := tk }) :
    wpAny (model X.prog X.w) X.A (getMethod (.ref C) m pl) Q E sh := by
  obtain ⟨mm, F⟩ := I.fr
  obtain ⟨p, rest, e1, e2⟩ := S.at_
  refine PySem.W.method_of_cls F I.ok.mod.kin S.spec ?_
  exact PySem.W.cls_sm F I.ok.mod.kin S.ty S.rd e1 e2 rfl (h _)
theorem pe_stat {k : Nat} {x m : Str} {C f : Addr} {fd : FuncData} {ps : List Str} {sp : Sp} {e : Expr} {es : List Expr} {t : TA} {p apos pos : Pos} (S : StM X.K C m f) (F : FnG X.prog X.w X.K X.mg X.base k f fd ps sp) (hr : Room k X.A) (hg : X.A.guards = some []) (hgl : Gl X x) (hm : X.mg x = some (.ref C)) (hb : Binds X.K fd ps []) (tk : Takes X W)
    (hd : (x == ("__debug__" : Str)) = false) (ha : PA X (e :: es) t) (hs : starEach (e :: es) X.env = (false, eval e X.env) :: starEach es X.env) (hp : (backTo pos (starEach es X.env)).any (·.1) = false) (ht : MtForm X (.Name x p) m apos pos (e :: es) (plOf (.Name x p) X.env)) :
    PE X (.Call (.Attribute (.Name x p) m apos) (e :: es) [] pos) (tCallG sp W t) := by
  refine ⟨fun pins sh sg H Q I h => ?_⟩
  refine PySem.W.methodCall_KW (pl := plOf (.Name x p) X.env) (ld_glob I hgl hm ?_ hd) ht
  refine getstat_ok I S fun tk2 => ?_
  refine PySem.W.callWith_K (first := []) (h₀ := X.base) I.ok.mod.kin S.kp (thn (ha.run pos pins _ sg H _ (I.tok tk2) h) fun us s2 ⟨vs, H2, I2, r, q2⟩ => ⟨I2.kIn, ?_⟩) hs hp
  exact runG F hr hg hb tk I2 r q2
end
end PI
end

section
set_option Elab.async false
set_option linter.all false
set_option maxRecDepth 100000
/-! PyS8: methods of built-in types, isinstance, f-strings. -/
namespace PI
open PySem PySem.Spec PyProof.Rows L2 TL
def tyW (K : PySem.W.Frag) (T : String) (x : V) (H : Hp) : Prop := tyV K T x H ∨ (T = "tuple" ∧ ∃ a vs, x = .ref a ∧ TupK H a vs)
section
variable {X : Cx} {ca : Nat → Addr} {xn : Xn} {g : G} {W : WX} {a b c : Expr} {ia ib ic : E} {pos : Pos} {es : List Expr} {ies : Es}
theorem tyW_is {pins : List (Addr × Obj)} {sg : L2.St} {H : Hp} {sh : Shared} {T : String} {x : V} {v : Value} (I : Inv X pins sg H sh) (r : RelV x v) (ty : tyW X.K T x H) :
    sh.TypeIs v T ∧ ∀ a, v = .ref a → ∃ ob, sh.heap.get? a = some ob ∧ ob.dict = none := by
  rcases ty with ty | ⟨rfl, a, vs, rfl, o, hd, e⟩
  · exact tyV_is I r ty
  · cases (show v = Value.ref a from r)
    obtain ⟨h0, _, _, _, o2, h1, h2, _⟩ := (show ObjOk X.prog X.w H sh.heap a (.frz o (.tup vs)) from I.hok a _ e)
    refine ⟨⟨o2, h1, h2⟩, fun b e2 => ?_⟩
    cases e2
    exact ⟨o, h0, hd⟩
/-- o.m(..), the built-in type is the value's -/
def tBMD (X : Cx) (name : Str) (to : TE) (t : TA) : TE := fun sg H Q => to sg H fun x H1 => ∃ (T id : String) (r : V → List V → Hp → VK → Prop), PlainAttrs T ∧ Slot T name id ∧ typeOf (.builtin id) = pure (.type "method_descriptor") ∧ MtR X id r ∧ tyW X.K T x H1 ∧ t sg H1 fun xs H2 => r x xs H2 Q
theorem pe_bmD0 {o : Expr} {name : Str} {apos cpos : Pos} {to : TE} (ho : PE X o to) (hb : attributeBase o name X.env (eval o X.env) = eval o X.env) (hl : (apos.endLine == cpos.line) = true) : PE X (.Call (.Attribute o name apos) [] [] cpos) (tBMD X name to tNil) := by
  refine ⟨fun pins sh sg H Q I h => ?_⟩
  refine wpAny_Call_method0_late hb hl (thn (ho.run pins sh sg H _ I h) fun v s1 ⟨x, H1, I1, r1, T, id, r, pa, slot, hty, hm, ty, q1⟩ => ?_)
  obtain ⟨h1, h2⟩ := tyW_is I1 r1 ty
  exact ⟨T, id, pa, slot, hty, h1, h2, Calls.callWith_builtin rfl (PySem.evalArgs_none (hm pins s1 sg H1 x [] v [] Q I1 r1 .nil q1))⟩
theorem pe_bmD {o e : Expr} {es : List Expr} {name : Str} {apos cpos : Pos} {to : TE} {t : TA} (ho : PE X o to) (ha : PA X (e :: es) t) (hb : attributeBase o name X.env (eval o X.env) = eval o X.env) (hf : fewArgs (e :: es) = true) (hl : (apos.endLine == cpos.line) = true) :
    PE X (.Call (.Attribute o name apos) (e :: es) [] cpos) (tBMD X name to t) := by
  have hns : noStar e = true ∧ es.all noStar = true := by
    unfold fewArgs at hf
    rw [Bool.and_eq_true, List.all_cons, Bool.and_eq_true] at hf
    exact hf.1
  have hs := star_cons hns.1 es X.env
  have hp := star_any cpos X.env hns.2
  refine ⟨fun pins sh sg H Q I h => ?_⟩
  refine wpAny_Call_method_late hb (few_ok hf cpos X.env) hl rfl (thn (ho.run pins sh sg H _ I h) fun v s1 ⟨x, H1, I1, r1, T, id, r, pa, slot, hty, hm, ty, q1⟩ => ?_)
  obtain ⟨h1, h2⟩ := tyW_is I1 r1 ty
  refine ⟨T, id, pa, slot, hty, h1, h2, ?_⟩
  have hA := ha.run cpos pins s1 sg H1 _ I1 q1
  rw [hs] at hA ⊢
  refine Calls.callWith_builtin (by show (false || (backTo cpos (starEach es X.env)).any (·.1)) = false; rw [hp] <;> rfl) (Calls.evalArgs_plain ?_)
  exact thn hA fun us s2 ⟨vs, H2, I2, r2, q2⟩ => hm pins s2 sg H2 x vs v us Q I2 r1 r2 q2
def bmN : Bm → Str
  | .append => "append" | .clear => "clear" | .index => "index" | .insert => "insert" | .join => "join" | .split => "split" | .pop => "pop" | .extend => "extend"
/-- a list's methods -/
def rBmX (K : PySem.W.Frag) (b : Bm) : V → List V → Hp → VK → Prop := fun x xs H Q => rBmL K b x xs H Q ∨ rBm0 b x xs H Q
theorem mtr_no {id : String} : MtR X id (fun _ _ _ _ => False) := fun _ _ _ _ _ _ _ _ _ _ _ _ h => h.elim
theorem bm_list (hu : X.A.units + 65 < cLine) : ∀ b : Bm, bmL b = true → ∃ id, Slot "list" (bmN b) id ∧ typeOf (.builtin id) = pure (.type "method_descriptor") ∧ MtR X id (rBmX X.K b) := by
  intro b h
  cases b <;> first | cases h; done | skip
  · exact ⟨_, PySem.F.slot_list_append, PySem.F.type_list_append, MtR.or mt_append mtr_no⟩
  · exact ⟨_, PySem.F.slot_list_clear, PySem.F.type_list_clear, MtR.or mtr_no mt_clear⟩
  · exact ⟨_, PySem.F.slot_list_index, PySem.F.type_list_index, MtR.or (mt_indexD hu) mtr_no⟩
  · exact ⟨_, PySem.F.slot_list_insert, PySem.F.type_list_insert, MtR.or mt_insert mtr_no⟩
  · exact ⟨_, PySem.F.slot_list_pop, PySem.F.type_list_pop, MtR.or mt_popAt mt_pop⟩
theorem s_bmX {K : PySem.W.Frag} {rho : List Addr} {H : Hp} {s : S} {Q : VK} {E : Value → Option Addr → Hp → Prop} {i : Nat} {b : Bm} {u : V} {vs : List Val} {us : List V} (R : RelS K ca rho s H) (hx : VR K ca rho H (.ref i) u) (hv : VRs K ca rho H vs us) (h : PV K ca xn (bmv b (.ref i) vs s) rho H Q E) : rBmX K b u us H Q := by
  cases vs with
  | nil =>
    cases hv.nil_of
    exact .inr (s_bm0 R hx h)
  | cons v r => exact .inl (s_bmL R hx hv (by simp) h)
theorem s_bmD {bm : Bm} (hu : X.A.units + 65 < cLine) {m : Fr → M (List Val)} {rho : List Addr} {fr : Fr} {sg : L2.St} {H : Hp} {s : S} {Q : VK} {v : Val} {u : V} {t : TA} (R : RelS X.K ca rho s H) (F : RelF X.K ca rho H fr sg) (r : VR X.K ca rho H v u)
    (q : PV X.K ca xn (bnd (bmChk bm v) (fun _ => bnd (m fr) (fun vs => bmv bm v vs)) s) rho H Q (fun cls d H' => W cls d sg H'))
    (k : ∀ {Q1 : List V → Hp → Prop}, tM X.K ca xn W m (fun rho H a b => VRs X.K ca rho H a b) sg H Q1 → t sg H Q1) :
    ∃ (T id : String) (r : V → List V → Hp → VK → Prop), PlainAttrs T ∧ Slot T (bmN bm) id ∧ typeOf (.builtin id) = pure (.type "method_descriptor") ∧ MtR X id r ∧ tyW X.K T u H ∧ t sg H fun xs H2 => r u xs H2 Q := by
  have q := q.bnd
  cases v with
  | ref i =>
    obtain ⟨hb, q⟩ := Post.chk q
    obtain ⟨p, rfl, g1⟩ := r.ref_of
    obtain ⟨xs, ws, _, hw, _, q⟩ := Post.lookL R g1 q
    have q := q.ret R
    obtain ⟨id, h1, h2, h3⟩ := bm_list (X := X) hu bm hb
    exact ⟨"list", id, _, PySem.F.plainAttrs_list, h1, h2, h3, .inl (.inl ⟨rfl, ws, SqL.of hw⟩), k (tM_bnd R F q fun vs us rho2 s2 H2 x2 R2 F2 r2 q => s_bmX R2 (r.mono R x2) r2 q)⟩
  | tup ys =>
    obtain ⟨hb, q⟩ := Post.chk q
    have q := q.ret R
    have e : bm = .index := by simpa using hb
    subst e
    obtain ⟨p, ws, rfl, q1, r1⟩ := r.tup_of
    exact ⟨"tuple", _, _, PySem.F.plainAttrs_tuple, PySem.F.slot_tuple_index, PySem.F.type_tuple_index, mt_tup_index, .inr ⟨rfl, p, ws, rfl, q1⟩, k (tM_bnd R F q fun vs us rho2 s2 H2 x2 R2 F2 r2 q => (s_tix R2 (r.mono R x2) r2 q).2)⟩
  | str y =>
    obtain ⟨hb, q⟩ := Post.chk q
    have q := q.ret R
    obtain ⟨rfl, ok⟩ := r.str_of
    have e : bm = .join ∨ bm = .split := by simpa using hb
    rcases e with rfl | rfl
    · exact ⟨"str", _, _, PySem.F.plainAttrs_str, PySem.F.slot_str_join, PySem.F.type_str_join, mt_join, .inl rfl, k (tM_bnd R F q fun vs us rho2 s2 H2 x2 R2 F2 r2 q => s_join R2 (r.mono R x2) r2 q)⟩
    · exact ⟨"str", _, _, PySem.F.plainAttrs_str, PySem.F.slot_str_split, PySem.F.type_str_split, mt_split, .inl rfl, k (tM_bnd R F q fun vs us rho2 s2 H2 x2 R2 F2 r2 q => s_split R2 (r.mono R x2) r2 q)⟩
  | _ => exact q.elim
theorem sE_bm {bm : Bm} {o e : Expr} {apos : Pos} (hu : X.A.units + 65 < cLine) (hb : attributeBase o (bmN bm) X.env (eval o X.env) = eval o X.env) (hf : fewArgs (e :: es) = true) (hl : (apos.endLine == pos.line) = true)
    (ho : PE X o (tI X.K ca xn g W ia)) (ha : PA X (e :: es) (tIs X.K ca xn g W ies)) : PE X (.Call (.Attribute o (bmN bm) apos) (e :: es) [] pos) (tI X.K ca xn g W (.bm bm ia ies)) :=
  PE.weak (pe_bmD ho ha hb hf hl) fun sg H Q ⟨rho, fr, s, R, F, q⟩ => by
    simp only [ev] at q
    exact tM_bnd (rel := fun rho H a b => VR X.K ca rho H a b) R F q fun v u rho1 s1 H1 x1 R1 F1 r1 q => s_bmD (m := fun fr => evs g fr ies) hu R1 F1 r1 q id
theorem sE_bm0 {bm : Bm} {o : Expr} {apos : Pos} (hu : X.A.units + 65 < cLine) (hb : attributeBase o (bmN bm) X.env (eval o X.env) = eval o X.env) (hl : (apos.endLine == pos.line) = true)
    (ho : PE X o (tI X.K ca xn g W ia)) : PE X (.Call (.Attribute o (bmN bm) apos) [] [] pos) (tI X.K ca xn g W (.bm bm ia .nil)) :=
  PE.weak (pe_bmD0 ho hb hl) fun sg H Q ⟨rho, fr, s, R, F, q⟩ => by
    simp only [ev] at q
    exact tM_bnd (rel := fun rho H a b => VR X.K ca rho H a b) R F q fun v u rho1 s1 H1 x1 R1 F1 r1 q => s_bmD (m := fun fr => evs g fr .nil) hu R1 F1 r1 q fun {Q1} t => by
      obtain ⟨rho', fr', s', R', F', t⟩ := t
      simp only [evs] at t
      exact t.ret R' _ (by simp [VRs])
/-! ### isinstance -/
def tyTag (pg : Pg) (s : S) : Val → Option (Option Ty)
  | .non => some none
  | .bl _ => some (some .bool)
  | .int _ => some (some .int)
  | .str _ => some (some .str)
  | .tup _ => some (some .tuple)
  | .ref i => (match s.st[i]? with
    | some (.lst _) => some (some .list)
    | some (.ins c _) => if clOk pg c then some (some (.cls c)) else none
    | none => none)
  | .lst _ => none
  | .dct _ => some (some .dict)
def tyN (ca : Nat → Addr) : Option Ty → Value
  | none => .type "NoneType"
  | some .int => .type "int" | some .str => .type "str" | some .bool => .type "bool" | some .list => .type "list" | some .tuple => .type "tuple" | some .dict => .type "dict"
  | some (.cls c) => .ref (ca c)
def tyB : Option Ty → Ty → Bool
  | none, _ => false
  | some .bool, t => decide (t = .bool) || decide (t = .int)
  | some u, t => decide (u = t)
theorem tyIs_tag {s : S} {v : Val} {t : Ty} {k : Bool} {pg : Pg} (h : tyIs pg s v t = some k) : ∃ o, tyTag pg s v = some o ∧ k = tyB o t := by
  cases v with
  | ref i =>
    unfold tyIs at h
    unfold tyTag
    cases e : s.st[i]? with
    | none => simp only [e] at h; cases h
    | some o =>
      cases o with
      | lst xs => simp only [e] at h ⊢; refine ⟨_, rfl, ?_⟩; cases t <;> simp_all [tyB]
      | ins c fs =>
        simp only [e] at h ⊢
        split at h
        · rename_i hc
          rw [if_pos hc]
          refine ⟨_, rfl, ?_⟩
          cases t <;> simp_all [tyB]
        · cases h
  | lst xs => cases h
  | _ => refine ⟨_, rfl, ?_⟩; cases t <;> simp_all [tyIs, tyB]
def tys : List Ty := [.int, .str, .bool, .list, .tuple, .dict]
def tyS : Option Ty → String
  | some .int => "int" | some .str => "str" | some .bool => "bool" | some .list => "list" | some .tuple => "tuple" | some .dict => "dict" | _ => "NoneType"
theorem kit_all : ∀ o ∈ [none, some Ty.int, some .str, some .bool, some .list, some .tuple, some .dict], ∀ t ∈ tys, kitB (tyS o) (tyS (some t)) = some (tyB o t) := by decide +kernel
/-- an instance's class object -/
structure InsF (K : PySem.W.Frag) (C : Addr) : Prop where
  cl : Cls K C
  ha : PySem.W.findIn K (.ref C) "__class__" = some (some (.builtin "object.__class__"))
  hn : PySem.W.specialIn K (.builtin "object.__class__") "__get__" = some (some (.builtin "getset_descriptor.__get__"))
  htk : PySem.W.takesIn K (.builtin "object.__class__") = some true
  hm : PySem.W.mroIn K C (.type "object") = some true
/-- isinstance among the classes -/
structure IsF (K : PySem.W.Frag) (ca : Nat → Addr) (pg : Pg) : Prop where
  ins : ∀ c, clOk pg c = true → InsF K (ca c)
  cb : ∀ c, clOk pg c = true → ∀ t ∈ tys, PySem.W.kitOne K (.ref (ca c)) (.type (tyS (some t))) = some false
  bc : ∀ o ∈ [none, some Ty.int, some .str, some .bool, some .list, some .tuple, some .dict], ∀ c, clOk pg c = true → PySem.W.kitOne K (.type (tyS o)) (.ref (ca c)) = some false
  cc : ∀ c, clOk pg c = true → ∀ d, clOk pg d = true → PySem.W.kitOne K (.ref (ca c)) (.ref (ca d)) = some (decide (c = d))
def okTy (pg : Pg) : Ty → Bool
  | .cls d => clOk pg d
  | _ => true
theorem isi_kit {K : PySem.W.Frag} {pg : Pg} {s : S} {v : Val} {u : V} {rho : List Addr} {H : Hp} {t : Ty} {k : Bool} (I : IsF K ca pg) (ht : okTy pg t = true) (R : RelS K ca rho s H) (r : VR K ca rho H v u) (h : tyIs pg s v t = some k) :
    ∃ w, TyX K H u w ∧ PySem.W.kitOne K w (tyN ca (some t)) = some k := by
  obtain ⟨o, e, rfl⟩ := tyIs_tag h
  have base : ∀ o ∈ [none, some Ty.int, some .str, some .bool, some .list, some .tuple, some .dict], PySem.W.kitOne K (.type (tyS o)) (tyN ca (some t)) = some (tyB o t) := by
    intro o m
    by_cases hc : ∃ d, t = .cls d
    · obtain ⟨d, rfl⟩ := hc
      rw [show tyN ca (some (.cls d)) = .ref (ca d) from rfl, I.bc o m d ht]
      simp only [List.mem_cons, List.not_mem_nil, or_false] at m
      rcases m with rfl | rfl | rfl | rfl | rfl | rfl | rfl <;> simp [tyB]
    · have mt : t ∈ tys := by cases t <;> first | exact absurd ⟨_, rfl⟩ hc | simp [tys]
      have := kit_ty (K := K) (kit_all o m t mt)
      cases t <;> first | exact absurd ⟨_, rfl⟩ hc | exact this
  cases v with
  | non => cases e; cases r.non_of; exact ⟨_, .base .non, base none (by simp)⟩
  | bl b => cases e; cases r.bl_of; exact ⟨_, .base (.bl _), base (some .bool) (by simp)⟩
  | int b => cases e; cases r.int_of; exact ⟨_, .base (.int _), base (some .int) (by simp)⟩
  | str b => cases e; obtain ⟨rfl, _⟩ := r.str_of; exact ⟨_, .base (.str _), base (some .str) (by simp)⟩
  | tup b => cases e; obtain ⟨a, vs, rfl, ⟨o, _, q⟩, _⟩ := r.tup_of; exact ⟨_, .fTuple q, base (some .tuple) (by simp)⟩
  | lst b => cases e
  | dct b => cases e; obtain ⟨a, o, rfl, q⟩ := r.dct_of; exact ⟨_, .fDict q, base (some .dict) (by simp)⟩
  | ref i =>
    obtain ⟨a, rfl, g1⟩ := r.ref_of
    unfold tyTag at e
    cases e2 : s.st[i]? with
    | none => simp only [e2] at e; cases e
    | some ob =>
      cases ob with
      | lst xs =>
        simp only [e2] at e
        cases e
        obtain ⟨vs, h1, _⟩ := R.at_ i _ a e2 g1
        exact ⟨_, .base (.lst h1), base (some .list) (by simp)⟩
      | ins c fs =>
        simp only [e2] at e
        split at e
        · rename_i hc
          cases e
          obtain ⟨dx, gs, h1, _⟩ := R.at_ i _ a e2 g1
          have F := I.ins c hc
          refine ⟨_, .base (.ins h1 F.cl F.ha F.hn F.htk F.hm), ?_⟩
          by_cases ht2 : ∃ d, t = .cls d
          · obtain ⟨d, rfl⟩ := ht2
            rw [show tyN ca (some (.cls d)) = .ref (ca d) from rfl, I.cc c hc d ht]
            simp [tyB]
          · have mt : t ∈ tys := by cases t <;> first | exact absurd ⟨_, rfl⟩ ht2 | simp [tys]
            have := I.cb c hc t mt
            have e3 : tyB (some (.cls c)) t = false := by cases t <;> first | exact absurd ⟨_, rfl⟩ ht2 | simp [tyB]
            rw [e3]
            cases t <;> first | exact absurd ⟨_, rfl⟩ ht2 | exact this
        · cases e
theorem sE_isi {p p2 : Pos} {t : Ty} {x : Expr} {w : V} (I : IsF X.K ca g.pg) (ht : okTy g.pg t = true) (hg : Gl X "isinstance") (hm : X.mg "isinstance" = none) (hs : fewArgs [a, x] = true) (hx : PE X x (tC w)) (hw : ClsV w (tyN ca (some t))) (ha : PE X a (tI X.K ca xn g W ia)) :
    PE X (.Call (.Name "isinstance" p) [a, x] [] pos) (tI X.K ca xn g W (.isi ia [t])) := by
  have hns : noStar a = true ∧ noStar x = true := by
    unfold fewArgs at hs
    simp only [List.all_cons, List.all_nil, Bool.and_true, Bool.and_eq_true] at hs
    exact hs.1
  have s1 := star_cons hns.1 [x] X.env
  have s2 := star_cons hns.2 [] X.env
  refine PE.weak (pe_callB call_isi hg hm rfl (pa_cons ha (pa_cons hx pa_nil s2) s1) (by decide) (by decide) s1 (star_any pos X.env (by simp [hns.2]))) fun sg H Q ⟨rho, fr, s, R, F, q⟩ => ?_
  simp only [ev] at q
  refine tM_bnd (rel := fun rho H a b => VR X.K ca rho H a b) R F q fun v u rho1 s1 H1 x1 R1 F1 r1 q => ?_
  cases e : tyIs g.pg s1 v t with
  | none => simp [e] at q; exact q.elim
  | some k =>
    simp [e] at q
    obtain ⟨z, h1, h2⟩ := isi_kit I ht R1 r1 e
    exact ⟨u, w, z, _, k, rfl, hw, h1, h2, q rho1 H1 Ext.rfl' R1 _ (by simp [VR])⟩
/-! ### f-strings -/
theorem sE_fstr {p : Pos} (ha : PE X a (tI X.K ca xn g W ia)) : PE X (.JoinedStr [.FormattedValue a (-1) none p] pos) (tI X.K ca xn g W (.fstr ia)) :=
  PE.weak (pe_joined1 (pe_fmt ha)) fun sg H Q ⟨rho, fr, s, R, F, q⟩ => by
    simp only [ev] at q
    refine tM_bnd (rel := fun rho H a b => VR X.K ca rho H a b) R F q fun v u rho1 s1 H1 x1 R1 F1 r1 q => ?_
    cases v <;> first | exact q.elim | skip
    obtain ⟨rfl, k⟩ := r1.str_of
    exact .inl ⟨_, rfl, by rw [toS_length]; exact okT_len k, PV.str R1 q k⟩
end
end PI
end

section
set_option Elab.async false
set_option linter.all false
set_option maxRecDepth 100000
/-! PyZ0: zip of a list with a tuple (or any mix of the two), told with the library's draws: at each turn the two sequences as they stand then. -/
namespace ZM
open PySem PySem.Spec PyProof.Rows L2 RZ
/-- a list (false) or a tuple (true) -/
def SqB (t : Bool) (K : PySem.W.Frag) (H : Hp) (a : Addr) (xs : List V) : Prop := match t with
  | false => SqL K H a xs
  | true => SqT K H a xs
def SeqB (t : Bool) (h : Heap) (a : Addr) (its : Array Value) : Prop := match t with
  | false => h.IsList a its
  | true => h.IsTuple a its
def IterB (t : Bool) (h : Heap) (it a : Addr) (i : Nat) : Prop := match t with
  | false => h.IsListIter it a i
  | true => h.IsTupleIter it a i
def iterO (t : Bool) (a : Addr) : Obj := match t with
  | false => { cls := .type "list_iterator", data := .fields #[.ref a, .int 0 0] }
  | true => { cls := .type "tuple_iterator", data := .fields #[.ref a, .int 0 0] }
section
variable {X : Cx} {pins : List (Addr × Obj)} {sg : L2.St} {H : Hp} {s : Shared} {t : Bool} {a it : Addr} {xs ys : List V} {i : Nat} {h h' : Heap}
theorem inv_seq (I : Inv X pins sg H s) (q : SqB t X.K H a xs) : ∃ its : List Value, Vals xs its ∧ SeqB t s.heap a its.toArray := by
  cases t with
  | false => obtain ⟨its, r, p, _⟩ := I.list q; exact ⟨its, r, p.isList⟩
  | true => obtain ⟨its, r, p, _⟩ := I.tuple q; exact ⟨its, r, p⟩
theorem inv_inj (I : Inv X pins sg H s) (q : SqB t X.K H a xs) (q2 : SqB t X.K H a ys) : xs = ys := by
  cases t with
  | false => exact I.list_inj q q2
  | true => exact I.tuple_inj q q2
theorem SeqB.lt {its : Array Value} (q : SeqB t h a its) : a < h.objs.size := by
  cases t with
  | false => obtain ⟨o, e, _⟩ := q; exact Heap.lt_size e
  | true => obtain ⟨o, e, _⟩ := q; exact Heap.lt_size e
theorem IterB.obj (q : IterB t h it a i) : ∃ o vs, h.get? it = some o ∧ o.data = .fields vs := by
  cases t with
  | false => obtain ⟨o, e, _, d⟩ := q; exact ⟨o, _, e, d⟩
  | true => obtain ⟨o, e, _, d⟩ := q; exact ⟨o, _, e, d⟩
theorem IterB.at (q : IterB t h it a i) (k : ∀ o, h.get? it = some o → h'.get? it = some o) : IterB t h' it a i := by
  cases t with
  | false => exact Heap.IsListIter.at q k
  | true => exact Heap.IsTupleIter.at q k
theorem IterB.zero (e : h.get? it = some (iterO t a)) : IterB t h it a 0 := by
  cases t with
  | false => exact ⟨_, e, rfl, rfl⟩
  | true => exact ⟨_, e, rfl, rfl⟩
theorem draws {prog : Program} {w : World} {A : Around} (hh : A.handled = none) (t : Bool) (it l : Addr) (hne : l ≠ it) (items : Array Value) :
    Draws prog w A it [it, l] items.size (fun i v => items[i]? = some v) (fun i h => IterB t h it l i ∧ SeqB t h l items) := by
  cases t with
  | false => exact Draws.list hh it l hne items
  | true => exact Draws.tuple hh it l hne items
theorem begins (t : Bool) (l : Addr) (items : Array Value) : Begins (.ref l) (iterO t l) (fun h => SeqB t h l items) := by
  cases t with
  | false => exact begins_list l items
  | true => exact begins_tuple l items
end
/-- the two sequences as they stand at each turn, the items in new pairs -/
def Itm (t u : Bool) (K : PySem.W.Frag) (a b : Addr) : It :=
  ⟨fun i H => ∃ (xs ys : List V) (x y : V), SqB t K H a xs ∧ SqB u K H b ys ∧ xs[i]? = some x ∧ ys[i]? = some y,
    fun i H v H' => ∃ T x y, v = .ref T ∧ H T = none ∧ H' = upd H T (.tup [x, y]) ∧ (∀ xs, SqB t K H a xs → xs[i]? = some x) ∧ ∀ ys, SqB u K H b ys → ys[i]? = some y,
    fun i H => ∃ xs ys : List V, SqB t K H a xs ∧ SqB u K H b ys ∧ i ≤ xs.length ∧ i ≤ ys.length ∧ (i = xs.length ∨ i = ys.length)⟩
/-- where the zip stands ahead of turn i -/
structure At (t u : Bool) (z TI TO i1 i2 a b : Addr) (i : Nat) (h : Heap) : Prop where
  z : IsZip h z TI TO .none
  ti : IsTupOf2 h TI (.ref i1) (.ref i2)
  to : ∃ x y, IsTupOf2 h TO x y
  l : IterB t h i1 a i
  r : IterB u h i2 b i
theorem turn {P : Program} {w : World} {K : PySem.W.Frag} {elts : List Expr} {kk : Nat} {tpos : Pos} {t u : Bool} {a b z TI TO i1 i2 : Addr} (S : ZipSep2 z TI TO i1 i2 [i1, a] [i2, b]) (n1 : a ≠ i1) (n2 : b ≠ i2) :
    Turn P w K (.Tuple elts kk tpos) (Itm t u K a b) [z, TI, TO, i1, i2] z (At t u z TI TO i1 i2 a b) where
  mem := List.mem_cons_self ..
  obj := fun i h st c hc => by
    obtain ⟨_, hto⟩ := st.to
    obtain ⟨_, hto⟩ := hto
    obtain ⟨o1, w1, e1, d1⟩ := st.l.obj
    obtain ⟨o2, w2, e2, d2⟩ := st.r.obj
    simp only [List.mem_cons, List.not_mem_nil, or_false] at hc
    rcases hc with rfl | rfl | rfl | rfl | rfl
    · exact ⟨_, st.z, fun v q => nomatch q⟩
    · exact ⟨_, st.ti, fun v q => nomatch q⟩
    · exact ⟨_, hto, fun v q => nomatch q⟩
    · exact ⟨o1, e1, fun v q => by rw [d1] at q; cases q⟩
    · exact ⟨o2, e2, fun v q => by rw [d2] at q; cases q⟩
  keep := fun i h h' st k => by
    obtain ⟨x, y, hto⟩ := st.to
    exact ⟨k z (by simp) _ st.z, k TI (by simp) _ st.ti, ⟨x, y, k TO (by simp) _ hto⟩, st.l.at (k i1 (by simp)), st.r.at (k i2 (by simp))⟩
  item := by
    intro X hP hw hK hc i pins s sg H E I hf st hg
    subst hP hw hK
    obtain ⟨x0, y0, hto⟩ := st.to
    obtain ⟨xs, ys, x, y, qx, qy, hx, hy⟩ := hg
    obtain ⟨is1, v1, p1⟩ := inv_seq I qx
    obtain ⟨is2, v2, p2⟩ := inv_seq I qy
    obtain ⟨a1, g1, r1⟩ := v1.get hx
    obtain ⟨a2, g2, r2⟩ := v2.get hy
    have hd : X.A.in1.handled = none := I.ok.hd hc
    have old : ∀ c, c ∈ [z, TI, TO, i1, i2] → s.heap.objs.size ≠ c := fun c m q => by
      have m' := m
      simp only [List.mem_cons, List.not_mem_nil, or_false] at m'
      obtain ⟨o1, _, e1, _⟩ := st.l.obj
      obtain ⟨o2, _, e2, _⟩ := st.r.obj
      have : c < s.heap.objs.size := by
        rcases m' with rfl | rfl | rfl | rfl | rfl
        · exact Heap.lt_size st.z
        · exact Heap.lt_size st.ti
        · exact Heap.lt_size hto
        · exact Heap.lt_size e1
        · exact Heap.lt_size e2
      exact Nat.ne_of_gt this q
    have hlt1 : i < is1.toArray.size := by
      have := (List.getElem?_eq_some_iff.mp g1).1
      simpa using this
    have hlt2 : i < is2.toArray.size := by
      have := (List.getElem?_eq_some_iff.mp g2).1
      simpa using this
    refine wpAny_pyNext_zipD2_item S (draws hd t i1 a n1 is1.toArray) (draws hd u i2 b n2 is2.toArray) st.z st.ti hto ⟨st.l, p1⟩ ⟨st.r, p2⟩ hlt1 hlt2 fun b1 b2 h' tk w1 w2 z' to' l' r' T' sz hk => ?_
    have w1 : is1.toArray[i]? = some b1 := w1
    have w2 : is2.toArray[i]? = some b2 := w2
    simp only [List.getElem?_toArray] at w1 w2
    rw [g1] at w1
    rw [g2] at w2
    cases w1
    cases w2
    refine ⟨_, rfl, wpAny_letOwnedTupleGo_zip (s := { s with heap := h', toks := tk }) z' fun h'' z'' sb => ?_⟩
    have nT := old z (by simp)
    have T2 : h''.get? s.heap.objs.size = some { cls := .type "tuple", data := .seq #[a1, a2] } := (sb.2 _ nT).trans T'
    have kk : ∀ c o, c ∉ [z, TI, TO, i1, i2] → s.heap.get? c = some o → h''.get? c = some o := fun c o hn q => by
      simp only [List.mem_cons, List.not_mem_nil, or_false, not_or] at hn
      exact (sb.2 c hn.1).trans (hk c o hn.1 hn.2.2.1 hn.2.2.2.1 hn.2.2.2.2 q)
    have I1 : Inv X pins sg (upd H s.heap.objs.size (.tup [x, y])) { s with heap := h'', toks := tk } :=
      I.turnedNew (t' := tk) (ch := [z, TI, TO, i1, i2]) kk hf (Nat.le_refl _) ⟨by show 2 ≤ sizeLine; decide, [a1, a2], .cons r1 (.cons r2 .nil), ⟨_, T2, rfl, _, rfl⟩⟩
    have hti : IsTupOf2 h' TI (.ref i1) (.ref i2) := hk _ _ S.TIz S.TITO S.TIi1 S.TIi2 st.ti
    refine ⟨.ref s.heap.objs.size, _, I1, rfl, ⟨_, x, y, rfl, I.hok.fresh (Nat.le_refl _), rfl, fun l q => ?_, fun l q => ?_⟩, ⟨z'', (sb.2 _ S.TIz).trans hti, ⟨a1, a2, (sb.2 _ S.TOz).trans to'⟩, ?_, ?_⟩, fun c m => ?_⟩
    · rw [inv_inj I q qx]; exact hx
    · rw [inv_inj I q qy]; exact hy
    · exact l'.1.at fun o q => (sb.2 _ S.zi1.symm).trans q
    · exact r'.1.at fun o q => (sb.2 _ S.zi2.symm).trans q
    · rw [upd_ne (old c m).symm]
      exact (hf c m).1
  done := by
    intro X hP hw hK hc i pins s sg H E I hf st hg
    subst hP hw hK
    obtain ⟨x0, y0, hto⟩ := st.to
    obtain ⟨xs, ys, qx, qy, k1, k2, k3⟩ := hg
    obtain ⟨is1, v1, p1⟩ := inv_seq I qx
    obtain ⟨is2, v2, p2⟩ := inv_seq I qy
    have e1 := v1.length
    have e2 := v2.length
    have hd : X.A.in1.handled = none := I.ok.hd hc
    refine wpAny_pyNext_zipD2_end S (draws hd t i1 a n1 is1.toArray) (draws hd u i2 b n2 is2.toArray) st.z st.ti hto ⟨st.l, p1⟩ ⟨st.r, p2⟩ (by simp; omega) (by simp; omega) (by simp; omega) fun h' tk hk => ⟨rfl, I.turnedL (t' := tk) (ch := [z, TI, TO, i1, i2]) (fun c o hn q => ?_) hf⟩
    simp only [List.mem_cons, List.not_mem_nil, or_false, not_or] at hn
    exact hk c o hn.1 hn.2.2.1 hn.2.2.2.1 hn.2.2.2.2 q
  self := fun A i s Q E st h => wpAny_pyIter_zip st.z h
/-- zip(a, b): either of the two a list or a tuple -/
def iZipM (t u : Bool) (K : PySem.W.Frag) (ta : TA) : TI := fun sg H R => ta sg H fun vs H1 => ∃ a b xs ys, vs = [.ref a, .ref b] ∧ SqB t K H1 a xs ∧ SqB u K H1 b ys ∧ R (Itm t u K a b) H1
theorem pi {X : Cx} {e e2 : Expr} {ta : TA} {p pos tpos : Pos} {elts : List Expr} {kk : Nat} {t u : Bool} (hg : Gl X "zip") (hm : X.mg "zip" = none) (ha : PA X [e, e2] ta)
    (hs : starEach [e, e2] X.env = (false, eval e X.env) :: starEach [e2] X.env) (hpl : (backTo pos (starEach [e2] X.env)).any (·.1) = false) :
    PI X (.Tuple elts kk tpos) (.Call (.Name "zip" p) [e, e2] [] pos) (iZipM t u X.K ta) := by
  refine ⟨fun pins s sg H R I h => ?_⟩
  refine Call_ (ld_blt I hg hm PyProof.Rows.boot_zip (PyProof.Rows.callWith_type1 (thn (ha.run pos pins s sg H _ I h) fun us s1 w => ?_) hs hpl))
  obtain ⟨vs, H1, I1, r1, a, b, xs, ys, ex, qx, qy, q⟩ := w
  subst ex
  cases r1 with
  | cons r1 rr =>
    cases rr with
    | cons r2 rr =>
      cases rr
      cases r1
      cases r2
      obtain ⟨is1, v1, p1⟩ := inv_seq I1 qx
      obtain ⟨is2, v2, p2⟩ := inv_seq I1 qy
      have l1 := p1.lt
      have l2 := p2.lt
      have S : ZipSep2 (s1.heap.objs.size + 4) (s1.heap.objs.size + 2) (s1.heap.objs.size + 3) s1.heap.objs.size (s1.heap.objs.size + 1) [s1.heap.objs.size, a] [s1.heap.objs.size + 1, b] :=
        zip_sep2 (fun c m => by cases List.mem_singleton.mp m; exact l1) (fun c m => by cases List.mem_singleton.mp m; exact l2)
      refine zip_begins2 (begins t a is1.toArray) (begins u b is2.toArray) p1 p2 fun h' z ti to g1 g2 sz hk => wpAny_pyIter_zip z ?_
      refine ⟨_, [s1.heap.objs.size + 4, s1.heap.objs.size + 2, s1.heap.objs.size + 3, s1.heap.objs.size, s1.heap.objs.size + 1], _, Itm t u X.K a b, H1, rfl, I1.kept (t' := s1.toks) hk, turn S (Nat.ne_of_lt l1) (Nat.ne_of_lt (Nat.lt_succ_of_lt l2)), ⟨z, ti, ⟨_, _, to⟩, .zero g1, .zero g2⟩, fun c m => ?_, q⟩
      have le : s1.heap.objs.size ≤ c := by
        simp only [List.mem_cons, List.not_mem_nil, or_false] at m
        rcases m with e | e | e | e | e <;> rw [e] <;> first | exact Nat.le_refl _ | exact Nat.le_add_right _ _
      exact I1.fpOk le (I1.hok.fresh le)
end ZM
end

section
set_option Elab.async false
set_option linter.all false
set_option maxRecDepth 100000
/-! PyZ2: except clauses one by one, each with a name or without: what a list of clauses answers, told for the list's head from its tail. -/
namespace CL
open PySem PySem.Spec PyProof.Rows L2
/-- the exception a, caught in s: nothing is left in the air; sI is the state without it -/
structure Got (X : Cx) (a : Addr) (B : Heap) (sI : Shared) (pins : List (Addr × Obj)) (sg : L2.St) (H : Hp) (cls : Value) (d : Option Addr) (s : Shared) : Prop where
  inv : Inv X pins sg H sI
  kept : ∀ b o, sI.heap.get? b = some o → b ∉ frs X.stack → B.get? b = some o
  up : sI.heap.UpToSlots s.heap
  fly : HandSPX.FlyingZ B (X.env :: X.outer) a (Zc cls d) s.heap
  na : H a = none
  os : s.os = sI.os
  ag : AllBare s.gens
section
variable {X : Cx} {a : Addr} {B : Heap} {sI s : Shared} {pins : List (Addr × Obj)} {sg : L2.St} {H : Hp} {cls : Value} {d : Option Addr} {D : Ends} {W Wout : WX} {hds : List ExceptHandler}
theorem Got.now (G : Got X a B sI pins sg H cls d s) : Inv X pins sg H s := G.inv.landed G.kept G.fly.1 G.up G.os G.ag
/-- the same, the traceback changed once more -/
theorem Got.again {h : Heap} (G : Got X a B sI pins sg H cls d s) (fl : HandSPX.FlyingZ B (X.env :: X.outer) a (Zc cls d) h) (up : s.heap.UpToSlots h) : Got X a B sI pins sg H cls d { s with heap := h } :=
  ⟨G.inv, G.kept, G.up.trans up, fl, G.na, G.os, G.ag⟩
/-- the clause's suite may begin -/
theorem Got.suite (hs : X.stack = X.env :: X.outer) (hf : X.env.frame = some X.env.locals) (G : Got X a B sI pins sg H cls d s) : ∃ oe vs, s.heap.get? a = some oe ∧ Zc cls d oe ∧ oe.data = .fields vs ∧ Inv (X.suite a ((a, oe) :: (X.pn ++ pins))) [] sg H s := by
  obtain ⟨oe, vs, he, hz, hd⟩ := G.fly.there
  have out : a ∉ frs (X.env :: X.outer) := fun m => by
    obtain ⟨_, o, e, k⟩ := G.fly.2.2.1.mem m
    rw [he] at e
    cases e
    exact k _ hd
  refine ⟨oe, vs, he, hz, hd, G.now.suite he hd G.na (fun z => out ?_) fun m => out ?_⟩
  · exact List.mem_filterMap.mpr ⟨X.env, List.mem_cons_self, by rw [hf, z]⟩
  · obtain ⟨e, h1, h2⟩ := List.mem_filterMap.mp m
    exact List.mem_filterMap.mpr ⟨e, List.mem_cons_of_mem _ h1, h2⟩
/-- these clauses answer what W asks -/
def Clauses (X : Cx) (pins : List (Addr × Obj)) (D : Ends) (W : WX) (hds : List ExceptHandler) : Prop :=
  ∀ (a : Addr) (B : Heap) (sI : Shared) (sg : L2.St) (H : Hp) (cls : Value) (d : Option Addr) (s : Shared), Got X a B sI pins sg H cls d s → W cls d sg H → wpAny (model X.prog X.w) X.A (handleBy (.ref a) X.env hds) (SP X pins D) X.xe s
/-- no clause is left: the exception goes on -/
theorem none_left (hs : X.stack = X.env :: X.outer) (hf : X.env.frame = some X.env.locals) (tk : Takes X Wout) : Clauses X pins D Wout [] := by
  intro a B sI sg H cls d s G w
  obtain ⟨_, _, _, oe, vs, T, _, _, he, _, hd, h1, _⟩ := id G.fly
  have goes : wpAny (model X.prog X.w) X.A (setFlight (.ref a) X.env.frame) (fun _ s2 => wpAny (model X.prog X.w) X.A (throw (.ref a) : Sem Flow) (SP X pins D) X.xe s2) X.xe s := by
    rw [hf]
    refine HandSPX.setFlight_upZ (s := s) G.fly fun h hh up => wpAny_throw (tk _ _ ?_)
    exact ⟨a, B, sI, pins, sg, H, cls, d, rfl, G.inv, G.kept, G.up.trans up, .inr (.inr (by rw [hs]; exact hh)), G.na, G.os, G.ag, w⟩
  refine wpAny_handleBy_nil ?_
  unfold PySem.passOn
  refine wpAny_bind (wpAny_field he hd h1 ?_)
  rw [if_neg (show ¬ ((Value.ref T == Value.none) = true) from by simp)]
  first
    | exact wpAny_bind (wpAny_pure (wpAny_bind goes))
    | exact wpAny_bind goes
/-- the clause's class is looked up and asked -/
theorem asked {c : Value} {x : Str} {np : Pos} {b : Bool} {Q : Bool → Shared → Prop} {E : Value → Shared → Prop} (hs : X.stack = X.env :: X.outer) (hf : X.env.frame = some X.env.locals) (hc : Names X x c) (G : Got X a B sI pins sg H cls d s) (hb : PySem.W.exmOne X.K cls c = some b) (q : Q b s) :
    wpAny (model X.prog X.w) (X.A.mark (some (.ref a))) (eval (.Name x np) X.env) (fun v s1 => wpAny (model X.prog X.w) (X.A.mark (some (.ref a))) (excMatches (.ref a) v) Q E s1) E s := by
  obtain ⟨oe, vs, he, hz, hd, S⟩ := G.suite hs hf
  have L : PySem.W.Looks (model X.prog X.w) s.heap (typeOf (.ref a)) cls := fun A Q E s1 k q => wpAny_typeOf_ref (k _ _ he) (by rw [hz.1]; exact q)
  have m := (PySem.W.exm_one (M := model X.prog X.w) G.now.kIn L hb).here (A := X.A.mark (some (.ref a))) (E := E) (Q := Q) q
  obtain ⟨hg, hdb, k | ⟨k, hv, hn⟩⟩ := hc
  · exact ld_glob (X := X.suite a ((a, oe) :: (X.pn ++ pins))) S hg k m hdb
  · exact ld_blt (X := X.suite a ((a, oe) :: (X.pn ++ pins))) S hg k hv m hn hdb
/-- a clause with a name -/
theorem named {c : Value} {x n : Str} {i : Nat} {np pos' : Pos} {b₀ : Stmt} {suite : List Stmt} {ts : Addr → Value → Option Addr → TS} (hs : X.stack = X.env :: X.outer) (hf : X.env.frame = some X.env.locals) (hN : X.N.Nodup) (hi : X.N[i]? = some n) (hl : X.env.kindOf n = some .local) (hc : Names X x c)
    (hsu : ∀ (a : Addr) (oe : Obj) (cls : Value) (d : Option Addr) (pn : List (Addr × Obj)), Zc cls d oe → (∃ vs, oe.data = .fields vs) → PSs (X.suite a ((a, oe) :: pn)) (b₀ :: suite) (ts a cls d)) (r : Clauses X pins D W hds) :
    Clauses X pins D (wAs X.K c i ts W D) (.ExceptHandler (some (.Name x np)) (some n) (b₀ :: suite) pos' :: hds) := by
  rintro a B sI sg H cls d s G ⟨b, hb, yes, no⟩
  refine wpAny_handleBy_cons (codeAny_handlers_test ?_) (by intro q; cases q)
  refine asked hs hf hc G hb ?_
  cases b with
  | false => exact r a B sI sg H cls d s G (no rfl)
  | true =>
    refine codeAny_handlers_suite_as (HandSPX.lands_againZ G.fly fun h fl up => ?_)
    have G2 := G.again fl up
    obtain ⟨oe, vs, he, hz, hd, S⟩ := G2.suite hs hf
    refine store_ok (X := X.suite a ((a, oe) :: (X.pn ++ pins))) (v := .ref a) S hN hi (.inl hl) rfl (fun s3 S3 => ?_) (.inr hl)
    refine wpAny_mono ((hsu a oe cls d (X.pn ++ pins) hz ⟨_, hd⟩).run [] s3 _ H _ S3 (yes rfl a G.na)) (fun f s4 k => ?_) (fun _ _ z => False.elim z)
    have fin : ∀ {sg4 : L2.St} {H4 : Hp} {Q : Shared → Prop}, Inv (X.suite a ((a, oe) :: (X.pn ++ pins))) [] sg4 H4 s4 → (∀ s5, Inv X pins (sg4.set i none) H4 s5 → Q s5) → wpAny (model X.prog X.w) X.A (do bindName X.env n .none; unbindBehindTheSuite X.env n pos') (fun _ s5 => Q s5) X.xe s4 :=
      fun S4 q => gone_ok (S4.unsuite G.inv.ok) hN hi hl q
    cases f with
    | ret u =>
      obtain ⟨v, sg4, H4, S4, rv, q⟩ := k
      exact fin S4 fun s5 J => ⟨_, _, _, J, rv, q⟩
    | _ =>
      obtain ⟨sg4, H4, S4, q⟩ := k
      exact fin S4 fun s5 J => ⟨_, _, J, q⟩
/-- a clause without a name -/
theorem plain {c : Value} {x : Str} {np pos' : Pos} {b₀ : Stmt} {suite : List Stmt} {ts : Addr → Value → Option Addr → TS} (hs : X.stack = X.env :: X.outer) (hf : X.env.frame = some X.env.locals) (hc : Names X x c)
    (hsu : ∀ (a : Addr) (oe : Obj) (cls : Value) (d : Option Addr) (pn : List (Addr × Obj)), Zc cls d oe → (∃ vs, oe.data = .fields vs) → PSs (X.suite a ((a, oe) :: pn)) (b₀ :: suite) (ts a cls d)) (r : Clauses X pins D W hds) :
    Clauses X pins D (wOnly X.K c ts W D) (.ExceptHandler (some (.Name x np)) none (b₀ :: suite) pos' :: hds) := by
  rintro a B sI sg H cls d s G ⟨b, hb, yes, no⟩
  refine wpAny_handleBy_cons (codeAny_handlers_test ?_) (by intro q; cases q)
  refine asked hs hf hc G hb ?_
  cases b with
  | false => exact r a B sI sg H cls d s G (no rfl)
  | true =>
    refine codeAny_handlers_suite (HandSPX.lands_againZ G.fly fun h fl up => ?_)
    have G2 := G.again fl up
    obtain ⟨oe, vs, he, hz, hd, S⟩ := G2.suite hs hf
    refine wpAny_mono ((hsu a oe cls d (X.pn ++ pins) hz ⟨_, hd⟩).run [] _ _ H _ S (yes rfl a G.na)) (fun f s4 k => ?_) (fun _ _ z => False.elim z)
    cases f with
    | ret u =>
      obtain ⟨v, sg4, H4, S4, rv, q⟩ := k
      exact ⟨_, _, _, S4.unsuite G.inv.ok, rv, q⟩
    | _ =>
      obtain ⟨sg4, H4, S4, q⟩ := k
      exact ⟨_, _, S4.unsuite G.inv.ok, q⟩
/-- try with clauses that answer -/
theorem ps_try {h₀ : ExceptHandler} {body : List Stmt} {pos : Pos} {tb : WX → TS} {Wf : Ends → WX} (hs : X.stack = X.env :: X.outer) (hf : X.env.frame = some X.env.locals)
    (hb : ∀ (W : WX) (pn : List (Addr × Obj)) (xe : Value → Shared → Prop), Takes (X.tr pn xe) W → PassesOwn (model X.prog X.w) X.A X.env xe → PSs (X.tr pn xe) body (tb W)) (hh : ∀ pins D, Clauses X pins D (Wf D) (h₀ :: hds)) :
    PS X (.Try body (h₀ :: hds) [] [] pos) (fun D sg H => tb (Wf D) D sg H) := by
  refine ⟨fun pins s sg H D I h => ?_⟩
  have hfr : X.A.frames = some (X.env :: X.outer) := by rw [I.ok.frames, hs]
  refine wpAny_Try_except (wpAny_mono ((hb (Wf D) (X.pn ++ pins) (fun e s1 => wpAny (model X.prog X.w) X.A (noteFrame e X.env) (fun _ s2 => wpAny (model X.prog X.w) X.A (setFlight e none) (fun _ s3 =>
    wpAny (model X.prog X.w) X.A (handleBy e X.env (h₀ :: hds)) (SP X pins D) X.xe s3) X.xe s2) X.xe s1) (fun u s1 k => ?_) PassesOwn.looking).run [] s sg H D (I.toTry _) h) (fun f s1 k => ?_) (fun e s1 k => k))
  · obtain ⟨a, B, sI, p2, sg2, H2, cls, d, rfl, J, nb, up, sky, na, os, ag, w⟩ := k
    have G0 : Inv X pins sg2 H2 sI := J.ofTry I.ok
    refine Sky.land Zc.steady hfr hf (by rw [← hs]; exact sky) fun h fl up2 => ?_
    exact hh pins D a B sI sg2 H2 cls d _ ⟨G0, nb, up.trans up2, fl, na, os, ag⟩ w
  · cases f with
    | next =>
      obtain ⟨sg2, H2, J, q⟩ := k
      exact wpAny_execs_nil ⟨sg2, H2, J.ofTry I.ok, q⟩
    | ret u =>
      obtain ⟨v, sg2, H2, J, rv, q⟩ := k
      exact ⟨v, sg2, H2, J.ofTry I.ok, rv, q⟩
    | _ =>
      obtain ⟨sg2, H2, J, q⟩ := k
      exact ⟨sg2, H2, J.ofTry I.ok, q⟩
end
end CL
end

section
set_option Elab.async false
set_option linter.all false
set_option maxRecDepth 100000
/-! PyS9: targets, what is walked, comprehensions. -/
namespace PI
open PySem PySem.Spec PyProof.Rows L2 TL RZ
/-! ### targets -/
def gNs : List Nat → TGs
  | [] => gNil
  | i :: r => gCons (gName i) (gNs r)
def gOf (K : PySem.W.Frag) : Tg → TG
  | .var i => gName i
  | .tup is => fun v sg H Q => gTup K is.length (gNs is) v sg H Q ∨ gLst K is.length (gNs is) v sg H Q
/-- what an item is, for that target -/
def relT (K : PySem.W.Frag) (ca : Nat → Addr) (rho : List Addr) (H : Hp) : Tg → Val → V → Prop
  | .var _, y, v => VR K ca rho H y v
  | .tup _, y, v => (∀ xs, y = .tup xs → ∃ a vs, v = .ref a ∧ SqT K H a vs ∧ VRs K ca rho H xs vs) ∧ ∀ r, y = .ref r → VR K ca rho H y v
section
variable {K : PySem.W.Frag} {ca : Nat → Addr} {rho : List Addr} {H : Hp} {s : S} {fr : Fr} {sg : L2.St}
theorem relT_of {t : Tg} {y : Val} {v : V} (r : VR K ca rho H y v) : relT K ca rho H t y v := by
  cases t with
  | var i => exact r
  | tup is =>
    refine ⟨fun xs e => ?_, fun _ _ => r⟩
    subst e
    obtain ⟨a, vs, e, q, r⟩ := r.tup_of
    exact ⟨a, vs, e, q.sq, r⟩
theorem s_put {Q : L2.St → Hp → Prop} : ∀ {is : List Nat} {xs : List Val} {vs : List V} {fr fr' : Fr} {sg : L2.St}, putAll is xs fr = some fr' → VRs K ca rho H xs vs → RelF K ca rho H fr sg → (∀ sg', RelF K ca rho H fr' sg' → (∀ j, j ∉ is → sg'[j]? = sg[j]?) → sg'.length = sg.length → Q sg' H) → vs.length = is.length ∧ gNs is vs sg H Q
  | [], [], vs, fr, fr', sg, h, r, F, k => by
    cases h
    cases r.nil_of
    exact ⟨rfl, rfl, k sg F (fun _ _ => rfl) rfl⟩
  | i :: is, x :: xs, vs, fr, fr', sg, h, r, F, k => by
    obtain ⟨v, q, rfl, r1, r2⟩ := VRs.cons_iff.mp r
    simp only [putAll] at h
    obtain ⟨h1, h2⟩ := s_put (Q := Q) (sg := sg.set i (some v)) h r2 (F.set r1) fun sg' F' h3 h4 => k sg' F' (fun j m => by
      rw [h3 j (fun z => m (List.mem_cons_of_mem _ z)), List.getElem?_set_ne (fun (z : i = j) => m (by rw [z]; exact List.mem_cons_self))]) (by rw [h4, List.length_set])
    exact ⟨by simp [h1], v, q, rfl, h2⟩
  | [], _ :: _, vs, fr, fr', sg, h, r, F, k => by cases h
  | _ :: _, [], vs, fr, fr', sg, h, r, F, k => by cases h
theorem s_tg {Q : L2.St → Hp → Prop} {t : Tg} {y : Val} {v : V} {fr' : Fr} (h : setTg t y fr = some fr') (r : relT K ca rho H t y v) (F : RelF K ca rho H fr sg) (k : ∀ sg', RelF K ca rho H fr' sg' → (∀ j, j ∉ tgIx t → sg'[j]? = sg[j]?) → sg'.length = sg.length → Q sg' H) : gOf K t v sg H Q := by
  cases t with
  | var i =>
    cases h
    exact k _ (F.set r) (fun j m => by rw [List.getElem?_set_ne (fun z => m (by simp [tgIx, z]))]) (by rw [List.length_set])
  | tup is =>
    unfold setTg at h
    cases y <;> first | cases h; done | skip
    obtain ⟨a, vs, rfl, hq, r2⟩ := r.1 _ rfl
    obtain ⟨h1, h2⟩ := s_put (Q := Q) h r2 F k
    exact .inl ⟨a, vs, rfl, hq, h1, h2⟩
theorem s_tgS {Q : L2.St → Hp → Prop} {t : Tg} {y : Val} {v : V} {fr' : Fr} (R : RelS K ca rho s H) (h : setTgS s t y fr = some fr') (r : relT K ca rho H t y v) (F : RelF K ca rho H fr sg) (k : ∀ sg', RelF K ca rho H fr' sg' → (∀ j, j ∉ tgIx t → sg'[j]? = sg[j]?) → sg'.length = sg.length → Q sg' H) : gOf K t v sg H Q := by
  cases t with
  | var i => exact s_tg (t := .var i) h r F k
  | tup is =>
    cases y <;> first | cases h; done | skip
    · rename_i xs
      exact s_tg (t := .tup is) (y := .tup xs) h r F k
    · rename_i i
      obtain ⟨a, rfl, g1⟩ := (r.2 _ rfl).ref_of
      unfold setTgS at h
      simp only at h
      cases e : s.st[i]? with
      | none => rw [e] at h; cases h
      | some ob =>
        rw [e] at h
        cases ob with
        | ins c fs => cases h
        | lst xs =>
          obtain ⟨vs, m1, m2⟩ := R.at_ i _ a e g1
          obtain ⟨h1, h2⟩ := s_put (Q := Q) h m2 F k
          exact .inr ⟨a, vs, rfl, SqL.of m1, h1, h2⟩
end
/-! ### what is walked -/
inductive SrcR (K : PySem.W.Frag) (ca : Nat → Addr) (rho : List Addr) (H : Hp) : Src → It → Prop where
  | tup {xs : List Val} {a : Addr} {vs : List V} (q : TupK H a vs) (r : VRs K ca rho H xs vs) : SrcR K ca rho H (.items xs) (Itt K a)
  | lst {xs : List Val} {a : Addr} (r : VR K ca rho H (.lst xs) (.ref a)) : SrcR K ca rho H (.items xs) (Itl K a)
  | sgn {x : Tx} (k : okT x = true) : SrcR K ca rho H (.sgn x) (Its (toS x))
  | live {i : Nat} {a : Addr} (g : rho[i]? = some a) : SrcR K ca rho H (.live i) (Itl K a)
  | rng {lo : Int} {n : Nat} : SrcR K ca rho H (.rng lo 1 n) (Itr lo n)
  | rngC {lo c : Int} {n : Nat} : SrcR K ca rho H (.rng lo c n) (Itc lo c n)
  | enum {i : Nat} {a : Addr} (g : rho[i]? = some a) : SrcR K ca rho H (.enum i) (Ite K a)
  | zipL {i j : Nat} {a b : Addr} (g : rho[i]? = some a) (g2 : rho[j]? = some b) : SrcR K ca rho H (.zipL i j) (Itz K a b)
  | zipT {xs ys : List Val} {a b : Addr} {vs ws : List V} (q : TupK H a vs) (r : VRs K ca rho H xs vs) (q2 : TupK H b ws) (r2 : VRs K ca rho H ys ws) : SrcR K ca rho H (.zipT xs ys) (ItzT K a b)
  | zipM {i : Nat} {ys : List Val} {a b : Addr} {ws : List V} (g : rho[i]? = some a) (q2 : TupK H b ws) (r2 : VRs K ca rho H ys ws) : SrcR K ca rho H (.zipM i ys) (ZM.Itm false true K a b)
section
variable {X : Cx} {ca : Nat → Addr} {xn : Xn} {rho : List Addr} {H : Hp} {s : S} {sg : L2.St} {E : Value → Option Addr → Hp → Prop}
theorem SrcR.mono {K : PySem.W.Frag} {rho1 : List Addr} {H1 : Hp} {q : Src} {J : It} (R : RelS K ca rho s H) (x : Ext rho H rho1 H1) (h : SrcR K ca rho H q J) : SrcR K ca rho1 H1 q J := by
  cases h with
  | tup q r => exact .tup (q.mono R x) (r.mono R x)
  | lst r => exact .lst (r.mono R x)
  | sgn k => exact .sgn k
  | live g => exact .live (x.get g)
  | rng => exact .rng
  | rngC => exact .rngC
  | enum g => exact .enum (x.get g)
  | zipL g g2 => exact .zipL (x.get g) (x.get g2)
  | zipT q r q2 r2 => exact .zipT (q.mono R x) (r.mono R x) (q2.mono R x) (r2.mono R x)
  | zipM g q2 r2 => exact .zipM (x.get g) (q2.mono R x) (r2.mono R x)
theorem TupK.rd {K : PySem.W.Frag} {a : Addr} {vs : List V} (h : TupK H a vs) : SqT K H a vs := h.sq
theorem get_none {K : PySem.W.Frag} {xs : List Val} {vs : List V} {i : Nat} (r : VRs K ca rho H xs vs) (h : xs[i]? = none) : vs.length ≤ i := by
  rw [← r.len]
  exact List.getElem?_eq_none_iff.mp h
theorem pairT {K : PySem.W.Frag} {t : Tg} {xs : List Val} {vs : List V} {T : Addr} (ht : isTup t = true) (hT : H T = none) (R : RelS K ca rho s H) (r : VRs K ca rho H xs vs) : Ext rho H rho (upd H T (.tup vs)) ∧ RelS K ca rho s (upd H T (.tup vs)) ∧ relT K ca rho (upd H T (.tup vs)) t (.tup xs) (.ref T) := by
  have x := nothing_upd (o := .tup vs) R hT
  refine ⟨x, R.other hT, ?_⟩
  cases t with
  | var i => cases ht
  | tup is =>
    refine ⟨fun ys e => ?_, fun _ e => nomatch e⟩
    cases e
    exact ⟨T, vs, rfl, SqT.of upd_same, r.mono R x⟩
theorem VRs.two {K : PySem.W.Frag} {x y : Val} {u v : V} (h : VR K ca rho H x u) (h2 : VR K ca rho H y v) : VRs K ca rho H [x, y] [u, v] := VRs.cons_iff.mpr ⟨u, [v], rfl, h, VRs.one h2⟩
/-- one turn -/
theorem s_src {K : PySem.W.Frag} {q : Src} {J : It} {t : Tg} {i : Nat} {Q' : Option Val → List Addr → S → Hp → Prop} (hp : pairs q = true → isTup t = true) (SR : SrcR K ca rho H q J) (R : RelS K ca rho s H) (h : Post K ca xn (srcAt q i s) rho H Q' E) :
    (J.stop i H ∧ Q' none rho s H) ∨ (J.go i H ∧ ∀ x H', J.yld i H x H' → Ext rho H rho H' ∧ RelS K ca rho s H' ∧ ∃ y, Q' (some y) rho s H' ∧ relT K ca rho H' t y x) := by
  cases SR with
  | @tup xs a vs hq r =>
    have h : Post K ca xn (ret xs[i]? s) rho H Q' E := h
    have h := h.ret R
    cases e : xs[i]? with
    | none =>
      rw [e] at h
      exact .inl ⟨⟨vs, hq.sq, get_none r e⟩, h⟩
    | some y =>
      rw [e] at h
      obtain ⟨v, e2, r2⟩ := r.get e
      refine .inr ⟨⟨vs, v, hq.sq, e2⟩, fun x H' yl => ?_⟩
      obtain ⟨rfl, k⟩ := yl
      have := k vs hq.sq
      rw [e2] at this
      cases this
      exact ⟨Ext.rfl', R, y, h, relT_of r2⟩
  | @lst xs a r =>
    have h : Post K ca xn (ret xs[i]? s) rho H Q' E := h
    have h := h.ret R
    obtain ⟨b, vs, e0, hq, r⟩ := r.lst_of
    cases e0
    cases e : xs[i]? with
    | none =>
      rw [e] at h
      exact .inl ⟨⟨vs, hq, get_none r e⟩, h⟩
    | some y =>
      rw [e] at h
      obtain ⟨v, e2, r2⟩ := r.get e
      refine .inr ⟨⟨vs, v, hq, e2⟩, fun x H' yl => ?_⟩
      obtain ⟨rfl, k⟩ := yl
      have := k vs hq
      rw [e2] at this
      cases this
      exact ⟨Ext.rfl', R, y, h, relT_of r2⟩
  | @sgn z k =>
    have h : Post K ca xn (ret (z[i]?.map fun c => Val.str [c]) s) rho H Q' E := h
    have h := h.ret R
    have hs : (toS z).cps.size = z.length := by simp [toS]
    cases e : z[i]? with
    | none =>
      rw [e] at h
      refine .inl ⟨?_, h⟩
      show (toS z).cps.size ≤ i
      rw [hs]
      exact List.getElem?_eq_none_iff.mp e
    | some c =>
      rw [e] at h
      have hi : i < z.length := (List.getElem?_eq_some_iff.mp e).1
      refine .inr ⟨by show i < (toS z).cps.size; rw [hs]; exact hi, fun x H' yl => ?_⟩
      obtain ⟨rfl, d, hd, rfl⟩ := yl
      have : d = c := by
        have h2 : (toS z).cps[i]? = z[i]? := by simp [toS]
        rw [h2, e] at hd
        exact (Option.some.inj hd).symm
      subst this
      exact ⟨Ext.rfl', R, _, h, relT_of (by simp only [VR]; exact ⟨rfl, okT_mem k (List.mem_of_getElem? e)⟩)⟩
  | @live j a g =>
    have h : Post K ca xn (bnd (look j) (fun o => bnd (opt (lstOf o)) fun xs => ret xs[i]?) s) rho H Q' E := h
    obtain ⟨xs, vs, e1, e2, r, h⟩ := Post.lookL R g h
    have h := h.ret R
    cases e : xs[i]? with
    | none =>
      rw [e] at h
      exact .inl ⟨⟨vs, SqL.of e2, get_none r e⟩, h⟩
    | some y =>
      rw [e] at h
      obtain ⟨v, e3, r2⟩ := r.get e
      refine .inr ⟨⟨vs, v, SqL.of e2, e3⟩, fun x H' yl => ?_⟩
      obtain ⟨rfl, k⟩ := yl
      have := k vs (SqL.of e2)
      rw [e3] at this
      cases this
      exact ⟨Ext.rfl', R, y, h, relT_of r2⟩
  | @rng lo n =>
    have h : Post K ca xn (ret (if i < n then some (Val.int (lo + i * 1)) else none) s) rho H Q' E := h
    have h := h.ret R
    by_cases hi : i < n
    · rw [if_pos hi] at h
      refine .inr ⟨hi, fun x H' yl => ?_⟩
      obtain ⟨rfl, rfl⟩ := yl
      exact ⟨Ext.rfl', R, _, h, relT_of (by simp [VR])⟩
    · rw [if_neg hi] at h
      exact .inl ⟨Nat.le_of_not_lt hi, h⟩
  | @rngC lo c n =>
    have h : Post K ca xn (ret (if i < n then some (Val.int (lo + i * c)) else none) s) rho H Q' E := h
    have h := h.ret R
    by_cases hi : i < n
    · rw [if_pos hi] at h
      refine .inr ⟨hi, fun x H' yl => ?_⟩
      obtain ⟨rfl, rfl⟩ := yl
      exact ⟨Ext.rfl', R, _, h, relT_of (by simp [VR])⟩
    · rw [if_neg hi] at h
      exact .inl ⟨Nat.le_of_not_lt hi, h⟩
  | @enum j a g =>
    have h : Post K ca xn (bnd (look j) (fun o => bnd (opt (lstOf o)) fun xs => ret (xs[i]?.map fun x => Val.tup [.int i, x])) s) rho H Q' E := h
    obtain ⟨xs, vs, e1, e2, r, h⟩ := Post.lookL R g h
    cases e : xs[i]? with
    | none =>
      rw [e] at h
      exact .inl ⟨⟨vs, SqL.of e2, get_none r e⟩, h.ret R⟩
    | some y =>
      rw [e] at h
      obtain ⟨v, e3, r2⟩ := r.get e
      refine .inr ⟨⟨vs, v, SqL.of e2, e3⟩, fun x H' yl => ?_⟩
      obtain ⟨T, z, rfl, hT, rfl, k⟩ := yl
      have := k vs (SqL.of e2)
      rw [e3] at this
      cases this
      obtain ⟨x1, R1, rt⟩ := pairT (t := t) (hp rfl) hT R (VRs.two (x := .int i) (u := .int i) (by simp [VR]) r2)
      exact ⟨x1, R1, _, (h.ext x1).ret R1, rt⟩
  | @zipL j j2 a b g g2 =>
    have h : Post K ca xn (bnd (look j) (fun o => bnd (opt (lstOf o)) fun xs => bnd (look j2) fun o => bnd (opt (lstOf o)) fun ys => ret (match xs[i]?, ys[i]? with
    | some x, some y => some (Val.tup [x, y])
    | _, _ => none)) s) rho H Q' E := h
    obtain ⟨xs, vs, e1, e2, r, h⟩ := Post.lookL R g h
    obtain ⟨ys, ws, e3, e4, r4, h⟩ := Post.lookL R g2 h
    cases e : xs[i]? with
    | none =>
      rw [e] at h
      exact .inl ⟨⟨vs, ws, SqL.of e2, SqL.of e4, .inl (get_none r e)⟩, h.ret R⟩
    | some y =>
      cases e' : ys[i]? with
      | none =>
        rw [e, e'] at h
        exact .inl ⟨⟨vs, ws, SqL.of e2, SqL.of e4, .inr (get_none r4 e')⟩, h.ret R⟩
      | some y' =>
        rw [e, e'] at h
        obtain ⟨v, k1, k2⟩ := r.get e
        obtain ⟨v', k3, k4⟩ := r4.get e'
        refine .inr ⟨⟨vs, ws, v, v', SqL.of e2, SqL.of e4, k1, k3⟩, fun x H' yl => ?_⟩
        obtain ⟨T, z, z', rfl, hT, rfl, m1, m2⟩ := yl
        have n1 := m1 vs (SqL.of e2)
        have n2 := m2 ws (SqL.of e4)
        rw [k1] at n1
        rw [k3] at n2
        cases n1
        cases n2
        obtain ⟨x1, R1, rt⟩ := pairT (t := t) (hp rfl) hT R (VRs.two k2 k4)
        exact ⟨x1, R1, _, (h.ext x1).ret R1, rt⟩
  | @zipT xs ys a b vs ws q1 r q2 r4 =>
    have h : Post K ca xn (ret (match xs[i]?, ys[i]? with
    | some x, some y => some (Val.tup [x, y])
    | _, _ => none) s) rho H Q' E := h
    cases e : xs[i]? with
    | none =>
      rw [e] at h
      exact .inl ⟨⟨vs, ws, q1.sq, q2.sq, .inl (get_none r e)⟩, h.ret R⟩
    | some y =>
      cases e' : ys[i]? with
      | none =>
        rw [e, e'] at h
        exact .inl ⟨⟨vs, ws, q1.sq, q2.sq, .inr (get_none r4 e')⟩, h.ret R⟩
      | some y' =>
        rw [e, e'] at h
        obtain ⟨v, k1, k2⟩ := r.get e
        obtain ⟨v', k3, k4⟩ := r4.get e'
        refine .inr ⟨⟨vs, ws, v, v', q1.sq, q2.sq, k1, k3⟩, fun x H' yl => ?_⟩
        obtain ⟨T, z, z', rfl, hT, rfl, m1, m2⟩ := yl
        have n1 := m1 vs q1.sq
        have n2 := m2 ws q2.sq
        rw [k1] at n1
        rw [k3] at n2
        cases n1
        cases n2
        obtain ⟨x1, R1, rt⟩ := pairT (t := t) (hp rfl) hT R (VRs.two k2 k4)
        exact ⟨x1, R1, _, (h.ext x1).ret R1, rt⟩
  | @zipM j ys a b ws g q2 r4 =>
    have h : Post K ca xn (bnd (look j) (fun o => bnd (opt (lstOf o)) fun xs => chk (decide (i ≤ xs.length) && decide (i ≤ ys.length)) (ret (match xs[i]?, ys[i]? with
    | some x, some y => some (Val.tup [x, y])
    | _, _ => none))) s) rho H Q' E := h
    obtain ⟨xs, vs, e1, e2, r, h⟩ := Post.lookL R g h
    obtain ⟨k, h⟩ := h.chk
    simp only [Bool.and_eq_true, decide_eq_true_eq] at k
    have l1 := r.len
    have l2 := r4.len
    have m1 : ZM.SqB false K H a vs := SqL.of e2
    have m2 : ZM.SqB true K H b ws := q2.sq
    by_cases z : i = xs.length ∨ i = ys.length
    · have e : (match xs[i]?, ys[i]? with
        | some x, some y => some (Val.tup [x, y])
        | _, _ => none) = none := by
        rcases z with z | z
        · rw [show xs[i]? = none from List.getElem?_eq_none (by omega)]
        · rw [show ys[i]? = none from List.getElem?_eq_none (by omega)]
          cases xs[i]? <;> rfl
      rw [e] at h
      exact .inl ⟨⟨vs, ws, m1, m2, by omega, by omega, by omega⟩, h.ret R⟩
    · have d1 : i < xs.length := by omega
      have d2 : i < ys.length := by omega
      have e : xs[i]? = some xs[i] := List.getElem?_eq_getElem d1
      have e' : ys[i]? = some ys[i] := List.getElem?_eq_getElem d2
      rw [e, e'] at h
      obtain ⟨v, k1, k2⟩ := r.get e
      obtain ⟨v', k3, k4⟩ := r4.get e'
      refine .inr ⟨⟨vs, ws, v, v', m1, m2, k1, k3⟩, fun x H' yl => ?_⟩
      obtain ⟨T, z, z', rfl, hT, rfl, w1, w2⟩ := yl
      have n1 := w1 vs m1
      have n2 := w2 ws m2
      rw [k1] at n1
      rw [k3] at n2
      cases n1
      cases n2
      obtain ⟨x1, R1, rt⟩ := pairT (t := t) (hp rfl) hT R (VRs.two k2 k4)
      exact ⟨x1, R1, _, (h.ext x1).ret R1, rt⟩
end
/-! ### the sources -/
/-- the reading of a source -/
def tSrc (K : PySem.W.Frag) (ca : Nat → Addr) (xn : Xn) (g : G) (W : WX) (k : Ik) (src : Es) : TI := fun sg H R => ∃ (rho : List Addr) (fr : Fr) (s : S), RelS K ca rho s H ∧ RelF K ca rho H fr sg ∧
  Post K ca xn (bnd (evs g fr src) (srcOf k) s) rho H (fun q rho' s' H' => ∀ J, SrcR K ca rho' H' q J → R J H') (fun cls d H' => W cls d sg H')
theorem PI.weak {X : Cx} {tg e : Expr} {t t' : TI} (h : L2.PI X tg e t) (k : ∀ sg H Q, t' sg H Q → t sg H Q) : L2.PI X tg e t' := ⟨fun pins s sg H Q I q => h.run pins s sg H Q I (k sg H Q q)⟩
theorem PI.or {X : Cx} {tg e : Expr} {t t' : TI} (h : L2.PI X tg e t) (h' : L2.PI X tg e t') : L2.PI X tg e (fun sg H Q => t sg H Q ∨ t' sg H Q) := ⟨fun pins s sg H Q I q => q.elim (h.run pins s sg H Q I) (h'.run pins s sg H Q I)⟩
section
variable {X : Cx} {ca : Nat → Addr} {xn : Xn} {g : G} {W : WX} {a b c : Expr} {ia ib ic : E} {pos p : Pos} {tg : Expr}
theorem sS_seq (ha : PE X a (tI X.K ca xn g W ia)) : L2.PI X tg a (tSrc X.K ca xn g W .seq (.cons ia .nil)) :=
  PI.weak (PI.or (pi_tup ha) (PI.or (pi_list ha) (pi_str ha))) fun sg H Q ⟨rho, fr, s, R, F, q⟩ => by
    simp only [evs] at q
    rw [show bnd (bnd (ev g fr ia) fun v => bnd (ret []) fun vs => ret (v :: vs)) (srcOf .seq) s = bnd (ev g fr ia) (fun v => srcOf .seq [v]) s from by rw [bnd_assoc]; rfl] at q
    cases e : ev g fr ia s with
    | bad => unfold bnd at q; rw [e] at q; exact q.elim
    | ex x s1 =>
      refine .inl ⟨rho, fr, s, R, F, ?_⟩
      show Post X.K ca xn (ev g fr ia s) _ _ _ _
      unfold bnd at q
      rw [e] at q ⊢
      exact q
    | ok v s1 =>
      have q := q.bnd
      rw [e] at q
      cases v with
      | lst xs =>
        refine .inr (.inl ⟨rho, fr, s, R, F, ?_⟩)
        show Post X.K ca xn (ev g fr ia s) _ _ _ _
        rw [e]
        intro rho1 H1 x1 R1 u r1
        have q := q rho1 H1 x1 R1
        obtain ⟨p, vs, rfl, h1, h2⟩ := r1.lst_of
        exact ⟨p, rfl, ⟨vs, h1⟩, q.ret R1 _ (.lst r1)⟩
      | str z =>
        refine .inr (.inr ⟨rho, fr, s, R, F, ?_⟩)
        show Post X.K ca xn (ev g fr ia s) _ _ _ _
        rw [e]
        intro rho1 H1 x1 R1 u r1
        have q := q rho1 H1 x1 R1
        obtain ⟨rfl, k⟩ := r1.str_of
        exact ⟨_, rfl, q.ret R1 _ (.sgn k)⟩
      | ref i =>
        refine .inr (.inl ⟨rho, fr, s, R, F, ?_⟩)
        show Post X.K ca xn (ev g fr ia s) _ _ _ _
        rw [e]
        intro rho1 H1 x1 R1 u r1
        have q := q rho1 H1 x1 R1
        obtain ⟨p, rfl, g1⟩ := r1.ref_of
        obtain ⟨xs, vs, e1, e2, r2, q⟩ := Post.lookL R1 g1 q
        exact ⟨p, rfl, ⟨vs, SqL.of e2⟩, q.ret R1 _ (.live g1)⟩
      | tup xs =>
        refine .inl ⟨rho, fr, s, R, F, ?_⟩
        show Post X.K ca xn (ev g fr ia s) _ _ _ _
        rw [e]
        intro rho1 H1 x1 R1 u r1
        have q := q rho1 H1 x1 R1
        obtain ⟨p, vs, rfl, h1, h2⟩ := r1.tup_of
        exact ⟨p, rfl, ⟨vs, h1.sq⟩, q.ret R1 _ (.tup h1 h2)⟩
      | _ =>
        refine .inl ⟨rho, fr, s, R, F, ?_⟩
        show Post X.K ca xn (ev g fr ia s) _ _ _ _
        rw [e]
        intro rho1 H1 x1 R1 u r1
        exact (q rho1 H1 x1 R1).elim
theorem sS_range1 {src : Es} (hg : Gl X "range") (hm : X.mg "range" = none) (hs : starEach [a] X.env = [(false, eval a X.env)]) (ha : PA X [a] (tIs X.K ca xn g W src)) : L2.PI X tg (.Call (.Name "range" p) [a] [] pos) (tSrc X.K ca xn g W .range src) :=
  PI.weak (pi_range1 hg hm ha hs) fun sg H Q ⟨rho, fr, s, R, F, q⟩ => by
    refine tM_bnd (rel := fun rho H a b => VRs X.K ca rho H a b) R F q fun vs us rho1 s1 H1 x1 R1 F1 r1 q => ?_
    match vs, r1, q with
    | [x], r1, q =>
      obtain ⟨u, rfl, h⟩ := r1.one_of
      cases x <;> first | exact False.elim q | skip
      obtain ⟨cc, q⟩ := Post.chk q
      rw [Bool.and_eq_true] at cc
      exact ⟨_, by rw [h.int_of], of_decide_eq_true cc.1, of_decide_eq_true cc.2, q.ret R1 _ .rng⟩
    | [], r1, q => exact False.elim q
    | x :: y :: r, r1, q => cases x <;> exact False.elim q
theorem sS_range2 {src : Es} (hg : Gl X "range") (hm : X.mg "range" = none) (hs : starEach [a, b] X.env = [(false, eval a X.env), (false, eval b X.env)]) (hs2 : starEach [b] X.env = [(false, eval b X.env)]) (ha : PA X [a, b] (tIs X.K ca xn g W src)) : L2.PI X tg (.Call (.Name "range" p) [a, b] [] pos) (tSrc X.K ca xn g W .range2 src) :=
  PI.weak (pi_range2 hg hm ha hs hs2) fun sg H Q ⟨rho, fr, s, R, F, q⟩ => by
    refine tM_bnd (rel := fun rho H a b => VRs X.K ca rho H a b) R F q fun vs us rho1 s1 H1 x1 R1 F1 r1 q => ?_
    match vs, r1, q with
    | [x, y], r1, q =>
      obtain ⟨u, v, rfl, h, h2⟩ := r1.two_of
      cases x <;> first | exact False.elim q | skip
      cases y <;> first | exact False.elim q | skip
      obtain ⟨cc, q⟩ := Post.chk q
      simp only [Bool.and_eq_true, decide_eq_true_eq] at cc
      exact ⟨_, _, by rw [h.int_of, h2.int_of], ⟨cc.1.1.1, cc.1.1.2, cc.1.2, cc.2⟩, q.ret R1 _ .rng⟩
    | [], r1, q => exact False.elim q
    | [x], r1, q => cases x <;> exact False.elim q
    | x :: y :: z :: r, r1, q => cases x <;> first | exact False.elim q | (cases y <;> exact False.elim q)
theorem sS_range3 {src : Es} (hg : Gl X "range") (hm : X.mg "range" = none) (hs : starEach [a, b, c] X.env = (false, eval a X.env) :: starEach [b, c] X.env) (hpl : (backTo pos (starEach [b, c] X.env)).any (·.1) = false) (ha : PA X [a, b, c] (tIs X.K ca xn g W src)) : L2.PI X tg (.Call (.Name "range" p) [a, b, c] [] pos) (tSrc X.K ca xn g W .range3 src) :=
  PI.weak (pi_range3 hg hm ha hs hpl) fun sg H Q ⟨rho, fr, s, R, F, q⟩ => by
    refine tM_bnd (rel := fun rho H a b => VRs X.K ca rho H a b) R F q fun vs us rho1 s1 H1 x1 R1 F1 r1 q => ?_
    match vs, r1, q with
    | [x, y, z], r1, q =>
      obtain ⟨u, us, rfl, h, r2⟩ := VRs.cons_iff.mp r1
      obtain ⟨v, w, rfl, h2, h3⟩ := r2.two_of
      cases x <;> first | exact False.elim q | skip
      cases y <;> first | exact False.elim q | skip
      cases z <;> first | exact False.elim q | skip
      rename_i i j k
      obtain ⟨cc, q⟩ := Post.chk q
      simp only [Bool.and_eq_true, decide_eq_true_eq, bne_iff_ne, ne_eq] at cc
      exact ⟨_, _, _, (PySem.Builtin.Range.rangeSize i j k).toNat, by rw [h.int_of, h2.int_of, h3.int_of], ⟨cc.1.1.1, cc.1.1.2, cc.1.2, (Int.toNat_of_nonneg cc.2).symm⟩, q.ret R1 _ .rngC⟩
    | [], r1, q => exact False.elim q
    | [x], r1, q => cases x <;> exact False.elim q
    | [x, y], r1, q => cases x <;> first | exact False.elim q | (cases y <;> exact False.elim q)
    | x :: y :: z :: w :: r, r1, q => cases x <;> first | exact False.elim q | (cases y <;> first | exact False.elim q | (cases z <;> exact False.elim q))
theorem sS_enum {src : Es} {elts : List Expr} {kk : Nat} {tpos : Pos} (hg : Gl X "enumerate") (hm : X.mg "enumerate" = none) (hs : starEach [a] X.env = [(false, eval a X.env)]) (ha : PA X [a] (tIs X.K ca xn g W src)) : L2.PI X (.Tuple elts kk tpos) (.Call (.Name "enumerate" p) [a] [] pos) (tSrc X.K ca xn g W .enum src) :=
  PI.weak (pi_enum hg hm ha hs) fun sg H Q ⟨rho, fr, s, R, F, q⟩ => by
    refine tM_bnd (rel := fun rho H a b => VRs X.K ca rho H a b) R F q fun vs us rho1 s1 H1 x1 R1 F1 r1 q => ?_
    match vs, r1, q with
    | [x], r1, q =>
      obtain ⟨u, rfl, h⟩ := r1.one_of
      cases x <;> first | exact False.elim q | skip
      obtain ⟨p, rfl, g1⟩ := h.ref_of
      obtain ⟨xs, ws, e1, e2, r2, q⟩ := Post.lookL R1 g1 q
      exact ⟨p, ws, rfl, SqL.of e2, q.ret R1 _ (.enum g1)⟩
    | [], r1, q => exact False.elim q
    | x :: y :: r, r1, q => cases x <;> exact False.elim q
theorem sS_zip {src : Es} {elts : List Expr} {kk : Nat} {tpos : Pos} (hg : Gl X "zip") (hm : X.mg "zip" = none) (hs : starEach [a, b] X.env = (false, eval a X.env) :: starEach [b] X.env) (hpl : (backTo pos (starEach [b] X.env)).any (·.1) = false) (ha : PA X [a, b] (tIs X.K ca xn g W src)) : L2.PI X (.Tuple elts kk tpos) (.Call (.Name "zip" p) [a, b] [] pos) (tSrc X.K ca xn g W .zip src) :=
  PI.weak (PI.or (pi_zipA hg hm ha hs hpl) (ZM.pi (t := false) (u := true) hg hm ha hs hpl)) fun sg H Q ⟨rho, fr, s, R, F, q⟩ => by
    cases e : evs g fr src s with
    | bad => unfold bnd at q; rw [e] at q; exact q.elim
    | ex x s1 =>
      refine .inl ⟨rho, fr, s, R, F, ?_⟩
      show Post X.K ca xn (evs g fr src s) _ _ _ _
      unfold bnd at q
      rw [e] at q ⊢
      exact q
    | ok vs s1 =>
      have q := q.bnd
      rw [e] at q
      by_cases z : ∃ a ys, vs = [.ref a, .tup ys]
      · obtain ⟨a, ys, rfl⟩ := z
        refine .inr ⟨rho, fr, s, R, F, ?_⟩
        show Post X.K ca xn (evs g fr src s) _ _ _ _
        rw [e]
        intro rho1 H1 x1 R1 us r1
        have q := q rho1 H1 x1 R1
        obtain ⟨u, v, rfl, h, h2⟩ := r1.two_of
        obtain ⟨p, rfl, g1⟩ := h.ref_of
        obtain ⟨p2, ws, rfl, k3, k4⟩ := h2.tup_of
        obtain ⟨xs, vs, e1, e2, r2, q⟩ := Post.lookL R1 g1 q
        exact ⟨p, p2, vs, ws, rfl, SqL.of e2, k3.sq, q.ret R1 _ (.zipM g1 k3 k4)⟩
      · refine .inl ⟨rho, fr, s, R, F, ?_⟩
        show Post X.K ca xn (evs g fr src s) _ _ _ _
        rw [e]
        intro rho1 H1 x1 R1 us r1
        have q := q rho1 H1 x1 R1
        match vs, r1, q, z with
        | [x, y], r1, q, z =>
          obtain ⟨u, v, rfl, h, h2⟩ := r1.two_of
          cases x <;> first | exact False.elim q | skip
          · cases y <;> first | exact False.elim q | skip
            obtain ⟨p, vs, rfl, k1, k2⟩ := h.tup_of
            obtain ⟨p2, ws, rfl, k3, k4⟩ := h2.tup_of
            exact ⟨p, p2, vs, ws, rfl, .inr ⟨k1.sq, k3.sq, q.ret R1 _ (.zipT k1 k2 k3 k4)⟩⟩
          · cases y <;> first | exact False.elim q | skip
            · exact absurd ⟨_, _, rfl⟩ z
            · obtain ⟨p, rfl, g1⟩ := h.ref_of
              obtain ⟨p2, rfl, g2⟩ := h2.ref_of
              obtain ⟨xs, vs, e1, e2, r2, q⟩ := Post.lookL R1 g1 q
              obtain ⟨ys, ws, e3, e4, r4, q⟩ := Post.lookL R1 g2 q
              exact ⟨p, p2, vs, ws, rfl, .inl ⟨SqL.of e2, SqL.of e4, q.ret R1 _ (.zipL g1 g2)⟩⟩
        | [], r1, q, z => exact False.elim q
        | [x], r1, q, z => cases x <;> exact False.elim q
        | x :: y :: w :: r, r1, q, z => cases x <;> first | exact False.elim q | (cases y <;> exact False.elim q)
end
end PI
end

section
set_option Elab.async false
set_option linter.all false
set_option maxRecDepth 100000
/-! PyS10: comprehensions. -/
namespace PI
open PySem PySem.Spec PyProof.Rows L2 TL RZ
section
variable {K : PySem.W.Frag} {ca : Nat → Addr} {xn : Xn} {rho rho1 : List Addr} {H H1 : Hp} {s : S} {fr : Fr} {sg : L2.St} {α β : Type}
mutual
theorem VR.monoW (hp : ∃ d, rho1 = rho ++ d) (hf : ∀ a o u, H a = some (.frz o u) → H1 a = some (.frz o u)) : ∀ {v : Val} {u : V}, VR K ca rho H v u → VR K ca rho1 H1 v u
  | .non, _, h => by simpa [VR] using h
  | .bl _, _, h => by simpa [VR] using h
  | .int _, _, h => by simpa [VR] using h
  | .str _, _, h => by simpa [VR] using h
  | .tup xs, _, h => by
    simp only [VR] at h ⊢
    obtain ⟨a, vs, e, ⟨o, d, q⟩, r⟩ := h
    exact ⟨a, vs, e, ⟨o, d, hf _ _ _ q⟩, VRs.monoW hp hf r⟩
  | .lst xs, _, h => by
    simp only [VR] at h ⊢
    obtain ⟨a, vs, e, q, r⟩ := h
    refine ⟨a, vs, e, ?_, VRs.monoW hp hf r⟩
    rcases q with ⟨o, q⟩ | q
    · exact .inl ⟨o, hf _ _ _ q⟩
    · exact .inr q
  | .ref i, _, h => by
    simp only [VR] at h ⊢
    obtain ⟨a, e, q⟩ := h
    refine ⟨a, e, ?_⟩
    obtain ⟨d, rfl⟩ := hp
    rw [List.getElem?_append_left (List.getElem?_eq_some_iff.mp q).1]
    exact q
  | .dct kvs, _, h => by
    simp only [VR] at h ⊢
    obtain ⟨a, o, e, q⟩ := h
    exact ⟨a, o, e, hf _ _ _ q⟩
theorem VRs.monoW (hp : ∃ d, rho1 = rho ++ d) (hf : ∀ a o u, H a = some (.frz o u) → H1 a = some (.frz o u)) : ∀ {v : List Val} {u : List V}, VRs K ca rho H v u → VRs K ca rho1 H1 v u
  | [], _, h => by simpa [VRs] using h
  | y :: r, _, h => by
    simp only [VRs] at h ⊢
    obtain ⟨v, q, e, h1, h2⟩ := h
    exact ⟨v, q, e, VR.monoW hp hf h1, VRs.monoW hp hf h2⟩
end
theorem FR.monoW (hp : ∃ d, rho1 = rho ++ d) (hf : ∀ a o u, H a = some (.frz o u) → H1 a = some (.frz o u)) : ∀ {fs : List (Str × Val)} {gs : List (Str × V)}, FR K ca rho H fs gs → FR K ca rho1 H1 fs gs
  | [], _, h => h
  | (f, v) :: r, _, h => by
    obtain ⟨v, q, e, h1, h2⟩ := h
    exact ⟨v, q, e, h1.monoW hp hf, FR.monoW hp hf h2⟩
theorem OR.monoW {o : Ob} {a : Addr} (hp : ∃ d, rho1 = rho ++ d) (hf : ∀ a o u, H a = some (.frz o u) → H1 a = some (.frz o u)) (h : OR K ca rho H o a) (k : H1 a = H a) : OR K ca rho1 H1 o a := by
  cases o with
  | lst xs =>
    obtain ⟨vs, e, r⟩ := h
    exact ⟨vs, by rw [k]; exact e, r.monoW hp hf⟩
  | ins c fs =>
    obtain ⟨dx, gs, e, r, n⟩ := h
    exact ⟨dx, gs, by rw [k]; exact e, r.monoW hp hf, n⟩
/-- a list of the machine's own grows -/
theorem keepFrz {D : Addr} {zs zs' : List V} (h : H D = some (.lst zs)) : ∀ a o u, H a = some (.frz o u) → upd H D (.lst zs') a = some (.frz o u) := fun a o u e => by
  rw [upd_ne (fun z => by rw [z, h] at e; cases e)]
  exact e
theorem RelS.off {D : Addr} {zs zs' : List V} (R : RelS K ca rho s H) (hD : D ∉ rho) (h : H D = some (.lst zs)) : RelS K ca rho s (upd H D (.lst zs')) :=
  ⟨R.len, R.nd, fun i o a e1 e2 => (R.at_ i o a e1 e2).monoW ⟨[], by simp⟩ (keepFrz h) (upd_ne (fun z => hD (z ▸ List.mem_of_getElem? e2)))⟩
theorem RelS.adopt {D : Addr} {zs : List V} {acc : List Val} (R : RelS K ca rho s H) (hD : D ∉ rho) (h : H D = some (.lst zs)) (r : VRs K ca rho H acc zs) : RelS K ca (rho ++ [D]) ⟨s.st ++ [Ob.lst acc], s.w⟩ H := by
  have hp : ∃ d, rho ++ [D] = rho ++ d := ⟨[D], rfl⟩
  refine ⟨by simp [R.len], ?_, fun i u a e1 e2 => ?_⟩
  · rw [List.nodup_append]
    refine ⟨R.nd, by simp, fun a h1 b h2 => ?_⟩
    rw [List.mem_singleton] at h2
    rw [h2]
    exact fun z => hD (z ▸ h1)
  · by_cases hi : i < s.st.length
    · have e1' : s.st[i]? = some u := by rw [← e1]; exact (List.getElem?_append_left hi).symm
      have e2' : rho[i]? = some a := by rw [← e2]; exact (List.getElem?_append_left (by rw [R.len]; exact hi)).symm
      exact (R.at_ i u a e1' e2').monoW hp (fun _ _ _ e => e) rfl
    · have hi2 : i = s.st.length := by
        obtain ⟨q, _⟩ := List.getElem?_eq_some_iff.mp e1
        simp at q
        omega
      subst hi2
      have e1' : u = Ob.lst acc := by
        have z : (s.st ++ [Ob.lst acc])[s.st.length]? = some (Ob.lst acc) := by simp
        have e3 : (s.st ++ [Ob.lst acc])[s.st.length]? = some u := e1
        rw [z] at e3
        exact (Option.some.inj e3).symm
      have e2' : a = D := by
        rw [← R.len] at e2
        simp at e2
        exact e2.symm
      subst e1' e2'
      exact ⟨zs, h, r.monoW hp (fun _ _ _ e => e)⟩
theorem Post.bnd0 {m : M α} {f : α → M β} {Q : β → List Addr → S → Hp → Prop} {E : Value → Option Addr → Hp → Prop} (h : Post K ca xn (PI.bnd m f s) rho H Q E) (x : Ext rho H rho1 H1) : Post K ca xn (m s) rho1 H1 (fun a _ s1 _ => Post K ca xn (f a s1) rho H Q E) E := by
  unfold PI.bnd at h
  cases e : m s with
  | ok a s1 =>
    rw [e] at h
    exact fun _ _ _ _ => h
  | ex x1 s1 =>
    rw [e] at h
    exact h.ext x
  | bad =>
    rw [e] at h
    exact h
theorem RelF.wipe (F : RelF K ca rho H fr sg) : ∀ vs : List Nat, RelF K ca rho H (wipeF fr vs) (L2.wipe sg vs)
  | [] => F
  | v :: vs => (RelF.wipe F vs).unset
theorem wipe_in {sg : L2.St} {i : Nat} : ∀ {vs : List Nat}, i ∈ vs → i < sg.length → (L2.wipe sg vs)[i]? = some none
  | v :: vs, h, hl => by
    unfold L2.wipe
    by_cases e : v = i
    · subst e
      exact List.getElem?_set_self (by rw [wipe_length]; exact hl)
    · rw [List.getElem?_set_ne e]
      exact wipe_in ((List.mem_cons.mp h).resolve_left (fun z => e z.symm)) hl
  | [], h, _ => by cases h
theorem wipe_eq {a b : L2.St} {vs : List Nat} (h : ∀ j, j ∉ vs → a[j]? = (L2.wipe b vs)[j]?) (hl : a.length = (L2.wipe b vs).length) : L2.wipe a vs = L2.wipe b vs := by
  apply List.ext_getElem?
  intro j
  by_cases m : j ∈ vs
  · by_cases l : j < a.length
    · rw [wipe_in m l, wipe_in m (by rw [hl, wipe_length] at l; exact l)]
    · rw [List.getElem?_eq_none (by rw [wipe_length]; omega), List.getElem?_eq_none (by rw [hl, wipe_length] at l; rw [wipe_length]; omega)]
  · rw [wipe_out m, h j m]
end
section
variable {X : Cx} {ca : Nat → Addr} {xn : Xn} {g : G} {W : WX} {ie ic : E} {t : Tg} {k : Ik} {src : Es}
/-- nothing is raised -/
abbrev W0 : WX := fun _ _ _ _ => False
/-- the reading of a condition -/
def tCn (K : PySem.W.Frag) (ca : Nat → Addr) (xn : Xn) (g : G) (c : E) : TT := tM K ca xn W0 (fun fr => match c with
    | .no => ret true
    | _ => bnd (ev g fr c) truth) (fun _ _ a b => b = a)
theorem s_comp {sg : L2.St} {H : Hp} {Q : VK} (h : tI X.K ca xn g W (.comp ie t k src ic) sg H Q) : tLc (tSrc X.K ca xn g W k src) (gOf X.K t) (tCn X.K ca xn g ic) (tI X.K ca xn g W0 ie) (tgIx t) sg H Q := by
  obtain ⟨rho, fr, s, R, F, q⟩ := h
  simp only [ev] at q
  rw [← bnd_assoc] at q
  refine ⟨rho, fr, s, R, F, q.bnd.imp fun qs rho1 s1 H1 x1 R1 q J SR D hD => ?_⟩
  have F1 := F.mono R x1
  obtain ⟨htg, q⟩ := Post.chk (Post.noEx (E' := fun _ _ _ => False) q)
  have hp : pairs qs = true → isTup t = true := fun z => by
    unfold tgOk at htg
    rw [z] at htg
    simpa using htg
  generalize hst : (fun v => match setTg t v (wipeF fr (tgIx t)) with
      | none => (bad : M (Option Val))
      | some fr' => bnd (match ic with
        | .no => ret true
        | _ => bnd (ev g fr' ic) truth) fun b => (match b with
          | true => bnd (ev g fr' ie) fun y => ret (some y)
          | false => ret none)) = step at q
  refine ⟨fun i m Hh => ∃ (rho : List Addr) (s : S) (acc : List Val) (zs : List V), Ext rho1 H1 rho Hh ∧ RelS X.K ca rho s Hh ∧ D ∉ rho ∧ Hh D = some (.lst zs) ∧ VRs X.K ca rho Hh acc zs ∧
    Post X.K ca xn (bnd (compN step qs m i acc) (fun xs => alloc (.lst xs)) s) rho1 H1 (fun a rho' _ H' => ∀ w, VR X.K ca rho' H' a w → Q w H') (fun _ _ _ => False), ⟨_, rho1, s1, [], [], nothing_upd R1 hD, R1.other hD, R1.nothing hD, upd_same, by simp [VRs], q⟩, ?_⟩
  rintro i m Hh ⟨rho2, s2, acc, zs, x2, R2, nD, eD, r2, q2⟩
  have q3 : ∃ fo : Option Val → M (List Val), fo none = ret acc ∧ (m = 0 → ∀ y, fo (some y) = bad) ∧ (∀ m', m = m' + 1 → ∀ v, fo (some v) = bnd (step v) fun y => (match y with
      | some z => chk (decide (acc.length < lim)) (compN step qs m' (i + 1) (acc ++ [z]))
      | none => compN step qs m' (i + 1) acc)) ∧ compN step qs m i acc = bnd (srcAt qs i) fo := by
    cases m with
    | zero => exact ⟨fun o => match o with
        | none => ret acc
        | some _ => bad, rfl, fun _ _ => rfl, fun _ e => (by cases e), rfl⟩
    | succ m' => exact ⟨fun o => match o with
        | none => ret acc
        | some v => bnd (step v) fun y => (match y with
          | some z => chk (decide (acc.length < lim)) (compN step qs m' (i + 1) (acc ++ [z]))
          | none => compN step qs m' (i + 1) acc), rfl, fun e => (by cases e), fun m2 e v => (by cases e; rfl), rfl⟩
  obtain ⟨fo, f1, f2, f3, e3⟩ := q3
  rw [e3, bnd_assoc] at q2
  rcases s_src hp (SR.mono R1 x2) R2 (q2.bnd0 x2) with ⟨st, q4⟩ | ⟨gog, k4⟩
  · refine .inl ⟨st, ?_⟩
    rw [f1] at q4
    have q4 : Post X.K ca xn (alloc (.lst acc) s2) rho1 H1 (fun a rho' _ H' => ∀ w, VR X.K ca rho' H' a w → Q w H') (fun _ _ _ => False) := q4
    refine q4 (rho2 ++ [D]) Hh ⟨?_, fun a o e n => ?_⟩ (R2.adopt nD eD r2) _ ?_
    · obtain ⟨d, hd⟩ := x2.pre
      exact ⟨d ++ [D], by rw [hd, List.append_assoc]⟩
    · obtain ⟨z1, z2⟩ := x2.fr a o e n
      refine ⟨z1, fun z => ?_⟩
      rcases List.mem_append.mp z with z | z
      · exact z2 z
      · rw [List.mem_singleton] at z
        rw [z, hD] at e
        cases e
    · simp only [VR]
      exact ⟨D, rfl, by rw [← R2.len]; simp⟩
  · refine .inr ⟨gog, ?_⟩
    cases m with
    | zero =>
      refine ⟨fun _ => False, fun _ z => z.elim, fun x H' yl => ?_⟩
      obtain ⟨x5, R5, y, q5, rt⟩ := k4 x H' yl
      rw [f2 rfl] at q5
      exact q5.elim
    | succ m' =>
      refine ⟨fun Hh => ∃ (rho : List Addr) (s : S) (acc : List Val) (zs : List V), Ext rho1 H1 rho Hh ∧ RelS X.K ca rho s Hh ∧ D ∉ rho ∧ Hh D = some (.lst zs) ∧ VRs X.K ca rho Hh acc zs ∧
        Post X.K ca xn (bnd (compN step qs m' (i + 1) acc) (fun xs => alloc (.lst xs)) s) rho1 H1 (fun a rho' _ H' => ∀ w, VR X.K ca rho' H' a w → Q w H') (fun _ _ _ => False), fun H' z => ⟨m', Nat.lt_succ_self _, z⟩, fun x H' yl => ?_⟩
      obtain ⟨x5, R5, y, q5, rt⟩ := k4 x H' yl
      have hstep : step y = (match setTg t y (wipeF fr (tgIx t)) with
        | none => (bad : M (Option Val))
        | some fr' => bnd (match ic with
          | .no => ret true
          | _ => bnd (ev g fr' ic) truth) fun b => (match b with
            | true => bnd (ev g fr' ie) fun y => ret (some y)
            | false => ret none)) := by rw [← hst]
      rw [f3 m' rfl, hstep] at q5
      cases e6 : setTg t y (wipeF fr (tgIx t)) with
      | none => simp only [e6] at q5; exact q5.elim
      | some fr' =>
        simp only [e6] at q5
        have F5 : RelF X.K ca rho2 H' (wipeF fr (tgIx t)) (L2.wipe sg (tgIx t)) := ((F1.mono R1 x2).mono R2 x5).wipe _
        refine s_tg e6 rt F5 fun sg' F6 h1 h2 => ⟨wipe_eq h1 h2, ?_⟩
        rw [bnd_assoc, bnd_assoc] at q5
        refine ⟨rho2, fr', s2, R5, F6, (q5.bnd0 (x2.trans x5)).imp fun b rho7 s7 H7 x7 R7 q7 b' e => ?_⟩
        subst e
        have F7 := F6.mono R5 x7
        obtain ⟨eD7, nD7⟩ := (x5.trans x7).fr D _ eD nD
        cases b' with
        | false =>
          exact ⟨rho7, s7, acc, zs, (x2.trans x5).trans x7, R7, nD7, eD7, (r2.mono R2 x5).mono R5 x7, q7⟩
        | true =>
          have q7 : Post X.K ca xn (bnd (bnd (ev g fr' ie) fun y => ret (some y)) (fun y => bnd (match y with
              | some z => chk (decide (acc.length < lim)) (compN step qs m' (i + 1) (acc ++ [z]))
              | none => compN step qs m' (i + 1) acc) fun xs => alloc (.lst xs)) s7) rho1 H1 (fun a rho' _ H' => ∀ w, VR X.K ca rho' H' a w → Q w H') (fun _ _ _ => False) := q7
          rw [bnd_assoc] at q7
          refine ⟨rho7, fr', s7, R7, F7, (q7.bnd0 ((x2.trans x5).trans x7)).imp fun z rho8 s8 H8 x8 R8 q8 w r8 => ?_⟩
          obtain ⟨eD8, nD8⟩ := x8.fr D _ eD7 nD7
          have q8 : Post X.K ca xn (bnd (chk (decide (acc.length < lim)) (compN step qs m' (i + 1) (acc ++ [z]))) (fun xs => alloc (.lst xs)) s8) rho1 H1 (fun a rho' _ H' => ∀ w, VR X.K ca rho' H' a w → Q w H') (fun _ _ _ => False) := q8
          have racc : VRs X.K ca rho8 H8 acc zs := ((r2.mono R2 x5).mono R5 x7).mono R7 x8
          have hl : acc.length < lim := by
            cases e9 : decide (acc.length < lim) with
            | true => exact of_decide_eq_true e9
            | false => rw [e9] at q8; exact q8.elim
          rw [decide_eq_true hl] at q8
          refine ⟨zs, eD8, by rw [← racc.len, ← lim_eq]; exact hl, rho8, s8, acc ++ [z], zs ++ [w], ?_, R8.off nD8 eD8, nD8, upd_same, ?_, q8⟩
          · have x9 := ((x2.trans x5).trans x7).trans x8
            exact ⟨x9.pre, fun a o e n => let ⟨z1, z2⟩ := x9.fr a o e n; ⟨by rw [upd_ne (ne_of_none e hD)]; exact z1, z2⟩⟩
          · exact (racc.append (VRs.one r8)).monoW ⟨[], by simp⟩ (keepFrz eD8)
end
end PI
end

section
set_option Elab.async false
set_option linter.all false
set_option maxRecDepth 100000
/-! PyS11: statements, loops. -/
namespace PI
open PySem PySem.Spec PyProof.Rows L2 TL RZ
/-- what is wanted behind a statement's run -/
def PostS (K : PySem.W.Frag) (ca : Nat → Addr) (xn : Xn) (W : WX) (D : Ends) (n : Nat) (r : RS) (rho : List Addr) (H : Hp) : Prop := match r with
  | .nx fr s => ∀ rho' H' sg, Ext rho H rho' H' → RelS K ca rho' s H' → RelF K ca rho' H' fr sg → sg.length = n → D.nx sg H'
  | .rt v s => ∀ rho' H', Ext rho H rho' H' → RelS K ca rho' s H' → ∀ w, VR K ca rho' H' v w → D.rt w H'
  | .ex x fr s => ∀ rho' H' cls d sg, Ext rho H rho' H' → RelS K ca rho' s H' → RelF K ca rho' H' fr sg → sg.length = n → XR K ca xn rho' H' x cls d → W cls d sg H'
  | .bad => False
def tS (K : PySem.W.Frag) (ca : Nat → Addr) (xn : Xn) (W : WX) (m : Fr → S → RS) : TS := fun D sg H => ∃ (rho : List Addr) (fr : Fr) (s : S), RelS K ca rho s H ∧ RelF K ca rho H fr sg ∧ PostS K ca xn W D sg.length (m fr s) rho H
theorem PS.weak {X : Cx} {st : Stmt} {t t' : TS} (h : PS X st t) (k : ∀ D sg H, t' D sg H → t D sg H) : PS X st t' := ⟨fun pins s sg H D I q => h.run pins s sg H D I (k D sg H q)⟩
theorem PSs.weak {X : Cx} {st : List Stmt} {t t' : TS} (h : PSs X st t) (k : ∀ D sg H, t' D sg H → t D sg H) : PSs X st t' := ⟨fun pins s sg H D I q => h.run pins s sg H D I (k D sg H q)⟩
section
variable {K : PySem.W.Frag} {ca : Nat → Addr} {xn : Xn} {W : WX} {D : Ends} {rho rho1 : List Addr} {H H1 : Hp} {s : S} {fr : Fr} {sg : L2.St} {α : Type} {n : Nat}
theorem PostS.ext {r : RS} (h : PostS K ca xn W D n r rho H) (x : Ext rho H rho1 H1) : PostS K ca xn W D n r rho1 H1 := by
  cases r with
  | nx fr s => exact fun rho' H' sg x' => h rho' H' sg (x.trans x')
  | rt v s => exact fun rho' H' x' => h rho' H' (x.trans x')
  | ex e fr s => exact fun rho' H' cls d sg x' => h rho' H' cls d sg (x.trans x')
  | bad => exact h
/-- an expression's run, then a statement's -/
theorem PostS.wE {m : M α} {k : α → S → RS} (R : RelS K ca rho s H) (F : RelF K ca rho H fr sg) (h : PostS K ca xn W D sg.length (wE m fr k s) rho H) :
    Post K ca xn (m s) rho H (fun a rho1 s1 H1 => PostS K ca xn W D sg.length (k a s1) rho1 H1) (fun cls d H' => W cls d sg H') := by
  unfold PI.wE at h
  cases e : m s with
  | ok a s1 =>
    rw [e] at h
    exact fun rho1 H1 x _ => h.ext x
  | ex x s1 =>
    rw [e] at h
    exact fun rho1 H1 cls d x1 R1 r => h rho1 H1 cls d sg x1 R1 (F.mono R x1) rfl r
  | bad =>
    rw [e] at h
    exact h
theorem PostS.nx {fr' : Fr} (h : PostS K ca xn W D n (.nx fr' s) rho H) (R : RelS K ca rho s H) (F : RelF K ca rho H fr' sg) (hl : sg.length = n) : D.nx sg H := h rho H sg Ext.rfl' R F hl
end
section
variable {X : Cx} {ca : Nat → Addr} {xn : Xn} {g : G} {W : WX} {a b c e : Expr} {ia ib ic : E} {pos : Pos} {st : Stmt} {rest : List Stmt}
theorem tS_bnd {m : Fr → M α} {β : Type} {rel : List Addr → Hp → α → β → Prop} {k : α → S → RS} {rho : List Addr} {fr : Fr} {s : S} {sg : L2.St} {H : Hp} {D : Ends} {Q : β → Hp → Prop} (R : RelS X.K ca rho s H) (F : RelF X.K ca rho H fr sg)
    (h : PostS X.K ca xn W D sg.length (wE (m fr) fr k s) rho H)
    (hk : ∀ a b rho1 s1 H1, Ext rho H rho1 H1 → RelS X.K ca rho1 s1 H1 → RelF X.K ca rho1 H1 fr sg → rel rho1 H1 a b → PostS X.K ca xn W D sg.length (k a s1) rho1 H1 → Q b H1) : tM X.K ca xn W m rel sg H Q :=
  ⟨rho, fr, s, R, F, (h.wE R F).imp fun a rho' s' H' x R' hq b hr => hk a b rho' s' H' x R' (F.mono R x) hr hq⟩
abbrev sT (K : PySem.W.Frag) (ca : Nat → Addr) (xn : Xn) (g : G) (W : WX) (t : T) : TS := tS K ca xn W (fun fr => exT g t fr)
abbrev sTs (K : PySem.W.Frag) (ca : Nat → Addr) (xn : Xn) (g : G) (W : WX) (t : Ts) : TS := tS K ca xn W (fun fr => exTs g t fr)
theorem sX_no : PS X st (sT X.K ca xn g W .no) := ⟨fun _ _ _ _ _ _ ⟨_, _, _, _, _, h⟩ => h.elim⟩
theorem sX_pass : PS X (.Pass pos) (sT X.K ca xn g W .pass) := PS.weak ps_pass fun D sg H ⟨rho, fr, s, R, F, q⟩ => PostS.nx q R F rfl
theorem sX_nil : PSs X [] (sTs X.K ca xn g W .nil) := PSs.weak pss_nil fun D sg H ⟨rho, fr, s, R, F, q⟩ => PostS.nx q R F rfl
theorem sX_cons {t : T} {r : Ts} (h1 : PS X st (sT X.K ca xn g W t)) (h2 : PSs X rest (sTs X.K ca xn g W r)) : PSs X (st :: rest) (sTs X.K ca xn g W (.cons t r)) :=
  PSs.weak (pss_cons h1 h2) fun D sg H ⟨rho, fr, s, R, F, q⟩ => by
    refine ⟨rho, fr, s, R, F, ?_⟩
    simp only [exTs] at q
    show PostS X.K ca xn W _ _ (exT g t fr s) _ _
    cases e : exT g t fr s with
    | nx fr' s' =>
      rw [e] at q
      intro rho1 H1 sg1 x1 R1 F1 l1
      exact ⟨rho1, fr', s', R1, F1, by rw [l1]; exact q.ext x1⟩
    | rt v s' => rw [e] at q; exact q
    | ex x fr' s' => rw [e] at q; exact q
    | bad => rw [e] at q; exact q.elim
theorem sX_one {t : T} (h1 : PS X st (sT X.K ca xn g W t)) : PSs X [st] (sTs X.K ca xn g W (.cons t .nil)) := sX_cons h1 sX_nil
theorem sX_ex (hs : swapsWith e none pos.line X.env = pure false) (he : PE X e (tI X.K ca xn g W ia)) : PS X (.Expr e pos) (sT X.K ca xn g W (.ex ia)) :=
  PS.weak (ps_expr he hs) fun D sg H ⟨rho, fr, s, R, F, q⟩ => by
    simp only [exT] at q
    exact tS_bnd (m := fun fr => ev g fr ia) (rel := fun rho H a b => VR X.K ca rho H a b) R F q fun v u rho1 s1 H1 x1 R1 F1 r1 q => PostS.nx q R1 F1 rfl
theorem sX_ret (he : PE X e (tI X.K ca xn g W ia)) : PS X (.Return (some e) pos) (sT X.K ca xn g W (.ret ia)) :=
  PS.weak (ps_ret he) fun D sg H ⟨rho, fr, s, R, F, q⟩ => by
    simp only [exT] at q
    exact tS_bnd (m := fun fr => ev g fr ia) (rel := fun rho H a b => VR X.K ca rho H a b) R F q fun v u rho1 s1 H1 x1 R1 F1 r1 q => q rho1 H1 Ext.rfl' R1 u r1
theorem sX_retN : PS X (.Return none pos) (sT X.K ca xn g W (.ret (.k .non))) :=
  PS.weak ps_retN fun D sg H ⟨rho, fr, s, R, F, q⟩ => by
    simp only [exT, ev] at q
    exact q rho H Ext.rfl' R _ (by simp [VR])
/-- a store behind an expression -/
theorem s_asg {t : Tg} {te : TE} (hte : ∀ sg H Q, tI X.K ca xn g W ia sg H Q → te sg H Q) {D : Ends} {sg : L2.St} {H : Hp} (h : sT X.K ca xn g W (.asg t ia) D sg H) : tAsg te (gOf X.K t) D sg H := by
  obtain ⟨rho, fr, s, R, F, q⟩ := h
  simp only [exT] at q
  refine hte _ _ _ (tS_bnd (m := fun fr => ev g fr ia) (rel := fun rho H a b => VR X.K ca rho H a b) R F q fun v u rho1 s1 H1 x1 R1 F1 r1 q => ?_)
  cases e : setTg t v fr with
  | none => simp only [e] at q; exact q.elim
  | some fr' =>
    simp only [e] at q
    exact s_tg e (relT_of r1) F1 fun sg' F' _ hl => PostS.nx q R1 F' hl
theorem sX_asg {t : Tg} {tg : Expr} (hg : PG X tg (gOf X.K t)) (hs : swapsWithSole [tg] e pos.line X.env = pure false) (hw : swappedStores [tg] e X.env = pure none) (h1 : (assignEach [tg] X.env).map (·.2) = [assign tg X.env]) (he : PE X e (tI X.K ca xn g W ia)) : PS X (.Assign [tg] e pos) (sT X.K ca xn g W (.asg t ia)) :=
  PS.weak (ps_asg he hg hs hw h1) fun D sg H h => s_asg (fun _ _ _ h => h) h
theorem sX_par {i j : Nat} {x y : Str} {px py pt : Pos} {kt k2 pt2} (hc : X.calm = true) (hN : X.N.Nodup) (hi : X.N[i]? = some x) (hj : X.N[j]? = some y) (hij : i ≠ j)
    (hx : X.env.scope.names.lookup x = some .local) (hy : X.env.scope.names.lookup y = some .local) (hst : noStar a = true) (hst2 : noStar b = true)
    (hw : swappedStores [.Tuple [.Name x px, .Name y py] kt pt] (.Tuple [a, b] k2 pt2) X.env = pure (some [x, y]))
    (hs : swapsWithSole [.Tuple [.Name x px, .Name y py] kt pt] (.Tuple [a, b] k2 pt2) pos.line X.env = pure false) (ha : PE X a (tI X.K ca xn g W ia)) (hb : PE X b (tI X.K ca xn g W ib)) :
    PS X (.Assign [.Tuple [.Name x px, .Name y py] kt pt] (.Tuple [a, b] k2 pt2) pos) (sT X.K ca xn g W (.par i j ia ib)) :=
  PS.weak (ps_par hc hN hi hj hij hx hy (pa_cons ha (pa_cons hb pa_nil (star_cons hst2 _ _)) (star_cons hst _ _)) hw hs) fun D sg H ⟨rho, fr, s, R, F, q⟩ => by
    simp only [exT] at q
    have q := q.wE R F
    refine tM_bnd (m := fun fr => ev g fr ia) (rel := fun rho H a b => VR X.K ca rho H a b) R F q fun v u rho1 s1 H1 x1 R1 F1 r1 q => ?_
    refine tM_bnd (m := fun fr => ev g fr ib) (rel := fun rho H a b => VR X.K ca rho H a b) R1 F1 q fun v2 u2 rho2 s2 H2 x2 R2 F2 r2 q => ?_
    have q := q.ret R2
    exact ⟨u, u2, rfl, PostS.nx q R2 ((F2.set (r1.mono R1 x2)).set r2) (by simp)⟩
/-- three names at once -/
theorem three_par {i j l : Nat} {fr : Fr} : exT g (.asg (.tup [i, j, l]) (.tup (.cons ia (.cons ib (.cons ic .nil))))) fr = wE (bnd (ev g fr ia) fun x => bnd (ev g fr ib) fun y => bnd (ev g fr ic) fun z => PI.ret (x, y, z)) fr fun p s => .nx (((fr.set i (some p.1)).set j (some p.2.1)).set l (some p.2.2)) s := by
  have lm : decide (3 ≤ lim) = true := by decide
  funext s
  simp only [exT, ev, evs, wE, bnd, PI.ret]
  cases ev g fr ia s with
  | ok x s1 =>
    simp only
    cases ev g fr ib s1 with
    | ok y s2 =>
      simp only
      cases ev g fr ic s2 with
      | ok z s3 => simp [chk, lm, PI.ret, setTg, putAll]
      | ex x s2 => rfl
      | bad => rfl
    | ex x s2 => rfl
    | bad => rfl
  | ex x s2 => rfl
  | bad => rfl
theorem sX_par3 {i j l : Nat} {x y z : Str} {px py pz pt : Pos} {kt k2 pt2} (hc : X.calm = true) (hN : X.N.Nodup) (hi : X.N[i]? = some x) (hj : X.N[j]? = some y) (hl : X.N[l]? = some z) (hij : i ≠ j) (hil : i ≠ l) (hjl : j ≠ l)
    (hx : X.env.scope.names.lookup x = some .local) (hy : X.env.scope.names.lookup y = some .local) (hz : X.env.scope.names.lookup z = some .local) (hst : noStar a = true) (hst2 : noStar b = true) (hst3 : noStar c = true)
    (hw : swappedStores [.Tuple [.Name x px, .Name y py, .Name z pz] kt pt] (.Tuple [a, b, c] k2 pt2) X.env = pure (some [x, y, z]))
    (hs : swapsWithSole [.Tuple [.Name x px, .Name y py, .Name z pz] kt pt] (.Tuple [a, b, c] k2 pt2) pos.line X.env = pure false) (ha : PE X a (tI X.K ca xn g W ia)) (hb : PE X b (tI X.K ca xn g W ib)) (hd : PE X c (tI X.K ca xn g W ic)) :
    PS X (.Assign [.Tuple [.Name x px, .Name y py, .Name z pz] kt pt] (.Tuple [a, b, c] k2 pt2) pos) (sT X.K ca xn g W (.asg (.tup [i, j, l]) (.tup (.cons ia (.cons ib (.cons ic .nil)))))) :=
  PS.weak (ps_par3 hc hN hi hj hl hij hil hjl hx hy hz (pa_cons ha (pa_cons hb (pa_cons hd pa_nil (star_cons hst3 _ _)) (star_cons hst2 _ _)) (star_cons hst _ _)) hw hs) fun D sg H ⟨rho, fr, s, R, F, q⟩ => by
    have q : PostS X.K ca xn W D sg.length (exT g (.asg (.tup [i, j, l]) (.tup (.cons ia (.cons ib (.cons ic .nil))))) fr s) rho H := q
    rw [three_par] at q
    have q := q.wE R F
    refine tM_bnd (m := fun fr => ev g fr ia) (rel := fun rho H a b => VR X.K ca rho H a b) R F q fun v u rho1 s1 H1 x1 R1 F1 r1 q => ?_
    refine tM_bnd (m := fun fr => ev g fr ib) (rel := fun rho H a b => VR X.K ca rho H a b) R1 F1 q fun v2 u2 rho2 s2 H2 x2 R2 F2 r2 q => ?_
    refine tM_bnd (m := fun fr => ev g fr ic) (rel := fun rho H a b => VR X.K ca rho H a b) R2 F2 q fun v3 u3 rho3 s3 H3 x3 R3 F3 r3 q => ?_
    have q := q.ret R3
    exact ⟨u, u2, u3, rfl, PostS.nx q R3 (((F3.set ((r1.mono R1 x2).mono R2 x3)).set (r2.mono R2 x3)).set r3) (by simp)⟩
theorem sX_sub {o i : Expr} {io ii : E} {p2 : Pos} (hg : PG X (.Subscript o i p2) (gSub (tI X.K ca xn g W io) (tI X.K ca xn g W ii) rSetL)) (hs : swapsWithSole [.Subscript o i p2] e pos.line X.env = pure false) (hw : swappedStores [.Subscript o i p2] e X.env = pure none) (h1 : (assignEach [.Subscript o i p2] X.env).map (·.2) = [assign (.Subscript o i p2) X.env])
    (he : PE X e (tI X.K ca xn g W ia)) : PS X (.Assign [.Subscript o i p2] e pos) (sT X.K ca xn g W (.sub io ii ia)) :=
  PS.weak (ps_asg he hg hs hw h1) fun D sg H ⟨rho, fr, s, R, F, q⟩ => by
    simp only [exT] at q
    have q := q.wE R F
    refine tM_bnd (m := fun fr => ev g fr ia) (rel := fun rho H a b => VR X.K ca rho H a b) R F q fun v u rho1 s1 H1 x1 R1 F1 r1 q => ?_
    refine tM_bnd (m := fun fr => ev g fr io) (rel := fun rho H a b => VR X.K ca rho H a b) R1 F1 q fun v2 u2 rho2 s2 H2 x2 R2 F2 r2 q => ?_
    refine tM_bnd (m := fun fr => ev g fr ii) (rel := fun rho H a b => VR X.K ca rho H a b) R2 F2 q fun v3 u3 rho3 s3 H3 x3 R3 F3 r3 q => ?_
    obtain ⟨i3, rfl⟩ : ∃ i3, v2 = .ref i3 := by cases v2 <;> first | exact q.elim | exact ⟨_, rfl⟩
    obtain ⟨k3, rfl⟩ : ∃ k3, v3 = .int k3 := by cases v3 <;> first | exact q.elim | exact ⟨_, rfl⟩
    obtain ⟨p, rfl, g1⟩ := (r2.mono R2 x3).ref_of
    cases r3.int_of
    obtain ⟨xs, ws, e1, e2, r4, q⟩ := Post.lookL R3 g1 q
    obtain ⟨j, e3, q⟩ := Post.opt R3 q.bnd
    have x4 : Ext rho3 H3 rho3 (upd H3 p (.lst (ws.set j u))) := ext_put (List.mem_of_getElem? g1)
    have r5 := r4.set j ((r1.mono R1 x2).mono R2 x3)
    have R5 : RelS X.K ca rho3 ⟨s3.st.set i3 (Ob.lst (xs.set j v)), if obRef (Ob.lst (xs.set j v)) then min s3.w i3 else s3.w⟩ (upd H3 p (.lst (ws.set j u))) := R3.put g1 ⟨_, upd_same, r5.mono R3 x4⟩
    refine ⟨p, ws, _, j, rfl, rfl, e2, by rw [← r4.len]; exact e3, ?_⟩
    exact PostS.nx (q _ _ x4 R5) R5 (F3.mono R3 x4) rfl
theorem FR.putF {K : PySem.W.Frag} {rho : List Addr} {H : Hp} {f : Str} {v : Val} {u : V} (r : VR K ca rho H v u) : ∀ {fs : List (Str × Val)} {gs : List (Str × V)}, FR K ca rho H fs gs → FR K ca rho H (PI.putF f v fs) (L2.putF f u gs)
  | [], _, h => by
    cases h
    exact ⟨u, [], rfl, r, rfl⟩
  | (k, w) :: q, gs, h => by
    obtain ⟨z, p, rfl, h1, h2⟩ := h
    unfold PI.putF L2.putF
    by_cases e : k = f
    · rw [if_pos e]
      first
        | (rw [if_pos e]; exact ⟨u, p, rfl, r, h2⟩)
        | (rw [if_pos e.symm]; exact ⟨u, p, rfl, r, h2⟩)
        | (simp [e]; exact ⟨u, p, rfl, r, h2⟩)
    · rw [if_neg e]
      first
        | (rw [if_neg e]; exact ⟨z, _, rfl, h1, FR.putF r h2⟩)
        | (rw [if_neg (fun w => e w.symm)]; exact ⟨z, _, rfl, h1, FR.putF r h2⟩)
        | (simp [e]; exact ⟨z, _, rfl, h1, FR.putF r h2⟩)
theorem putF_keys {f : Str} {v : Val} : ∀ {fs : List (Str × Val)} {p : Str × Val}, p ∈ PI.putF f v fs → p.1 = f ∨ ∃ q ∈ fs, q.1 = p.1
  | [], p, h => by
    simp [PI.putF] at h
    subst h
    exact .inl rfl
  | (k, w) :: q, p, h => by
    unfold PI.putF at h
    split at h
    · rename_i e
      rcases List.mem_cons.mp h with h | h
      · subst h; exact .inl rfl
      · exact .inr ⟨p, List.mem_cons_of_mem _ h, rfl⟩
    · rcases List.mem_cons.mp h with h | h
      · subst h; exact .inr ⟨_, List.mem_cons_self, rfl⟩
      · rcases putF_keys h with h | ⟨q2, m, e⟩
        · exact .inl h
        · exact .inr ⟨q2, List.mem_cons_of_mem _ m, e⟩
theorem FR.len {K : PySem.W.Frag} {rho : List Addr} {H : Hp} : ∀ {fs : List (Str × Val)} {gs : List (Str × V)}, FR K ca rho H fs gs → fs.length = gs.length
  | [], _, h => by cases h; rfl
  | (k, w) :: q, gs, h => by
    obtain ⟨z, p, rfl, h1, h2⟩ := h
    simp [FR.len h2]
theorem sX_fld {o : Expr} {io : E} {f : Str} {p2 : Pos} (hf : ∀ c k, g.pg.cs c = some k → k.flds.contains f = true → NoAttr X.K (ca c) f) (hs : swapsWith e (some (.Attribute o f p2)) pos.line X.env = pure false) (ho : PE X o (tI X.K ca xn g W io)) (he : PE X e (tI X.K ca xn g W ia)) : PS X (.Assign [.Attribute o f p2] e pos) (sT X.K ca xn g W (.fld io f ia)) :=
  PS.weak (ps_fld ho he hs) fun D sg H ⟨rho, fr, s, R, F, q⟩ => by
    simp only [exT] at q
    have q := q.wE R F
    refine tM_bnd (m := fun fr => ev g fr ia) (rel := fun rho H a b => VR X.K ca rho H a b) R F q fun v u rho1 s1 H1 x1 R1 F1 r1 q => ?_
    refine tM_bnd (m := fun fr => ev g fr io) (rel := fun rho H a b => VR X.K ca rho H a b) R1 F1 q fun v2 u2 rho2 s2 H2 x2 R2 F2 r2 q => ?_
    obtain ⟨i3, rfl⟩ : ∃ i3, v2 = .ref i3 := by cases v2 <;> first | exact q.elim | exact ⟨_, rfl⟩
    obtain ⟨p, rfl, g1⟩ := r2.ref_of
    obtain ⟨ob, q1, q2, q⟩ := Post.look R2 g1 q.bnd
    cases ob with
    | lst xs => exact q.elim
    | ins c fs =>
      obtain ⟨cc, q⟩ := Post.chk q
      rw [Bool.and_eq_true] at cc
      obtain ⟨dx, gs, h1, h2, h3, h4⟩ := q1
      have hno : NoAttr X.K (ca c) f := by
        cases ek : g.pg.cs c with
        | none => rw [ek] at cc; simp at cc
        | some k => rw [ek] at cc; exact hf c k ek (by simpa using cc.2)
      have x4 : Ext rho2 H2 rho2 (upd H2 p (.ins (ca c) dx (L2.putF f u gs))) := ext_put (List.mem_of_getElem? g1)
      have r5 := r1.mono R1 x2
      have R5 : RelS X.K ca rho2 ⟨s2.st.set i3 (Ob.ins c (PI.putF f v fs)), if obRef (Ob.ins c (PI.putF f v fs)) then min s2.w i3 else s2.w⟩ (upd H2 p (.ins (ca c) dx (L2.putF f u gs))) := by
        refine R2.put g1 ⟨dx, _, upd_same, FR.putF (r5.mono R2 x4) (h2.mono R2 x4), h3, fun pr m => ?_⟩
        rcases putF_keys m with e | ⟨q3, m3, e⟩
        · rw [e]; exact hno
        · rw [← e]; exact h4 q3 m3
      exact ⟨p, ca c, dx, gs, rfl, h1, h3, hno, by rw [← h2.len]; exact of_decide_eq_true cc.1, PostS.nx (q _ _ x4 R5) R5 (F2.mono R2 x4) rfl⟩
def rAug (K : PySem.W.Frag) : Op → R2
  | .add => fun x y H Q => (rI0 fun i j => .int (i + j)) x y H Q ∨ rExt2 x y H Q | .sub => rI0 fun i j => .int (i - j) | _ => fun _ _ _ _ => False
theorem ip_all : ∀ o : Op, PIp X (oper o) (rAug X.K o)
  | .add => OpR.or iop_add iop_ext
  | .sub => iop_sub
  | .mul => fun _ _ _ _ _ _ _ _ _ _ _ _ h => h.elim
  | .mod => fun _ _ _ _ _ _ _ _ _ _ _ _ h => h.elim
  | .fdiv => fun _ _ _ _ _ _ _ _ _ _ _ _ h => h.elim
  | .pow => fun _ _ _ _ _ _ _ _ _ _ _ _ h => h.elim
theorem s_aug {K : PySem.W.Frag} {o : Op} {rho : List Addr} {H : Hp} {s : S} {x y : Val} {u v : V} {Q : VK} {E : Value → Option Addr → Hp → Prop} (R : RelS K ca rho s H) (hx : VR K ca rho H x u) (hy : VR K ca rho H y v) (h : PV K ca xn (augv o x y s) rho H Q E) : rAug K o u v H Q := by
  cases o with
  | sub =>
    cases x <;> cases y <;> first | exact False.elim h | skip
    cases hx.int_of; cases hy.int_of
    exact ⟨_, _, rfl, rfl, PV.int R h⟩
  | add =>
    cases x <;> cases y <;> first | exact False.elim h | skip
    · cases hx.int_of; cases hy.int_of
      exact .inl ⟨_, _, rfl, rfl, PV.int R h⟩
    · obtain ⟨_, h⟩ := Post.chk h
      obtain ⟨a, rfl, g1⟩ := hx.ref_of
      obtain ⟨b, rfl, g2⟩ := hy.ref_of
      obtain ⟨xs, vs, e1, e2, r1, h⟩ := Post.lookL R g1 h
      obtain ⟨ys, ws, e3, e4, r2, h⟩ := Post.lookL R g2 h
      obtain ⟨cc, h⟩ := Post.chk h
      obtain ⟨s', R', x', h⟩ := Post.putL R g1 (r1.append r2) h.bnd
      exact .inr ⟨a, b, vs, ws, rfl, rfl, e2, e4, by rw [← r1.len, ← r2.len, ← lim_eq]; exact of_decide_eq_true cc, h.ret R' _ (hx.mono R x')⟩
  | _ => cases x <;> cases y <;> exact False.elim h
theorem sX_aug {i : Nat} {x : Str} {o : Op} {p2 : Pos} (hN : X.N.Nodup) (hi : X.N[i]? = some x) (hx : Loc X.env.scope x) (hf : X.fn x = true ∨ X.env.scope.names.lookup x = some .local) (he : PE X e (tI X.K ca xn g W ia)) : PS X (.AugAssign (.Name x p2) (oper o) e pos) (sT X.K ca xn g W (.aug i o ia)) :=
  PS.weak (ps_aug hN hi hx he (ip_all o) hf) fun D sg H ⟨rho, fr, s, R, F, q⟩ => by
    simp only [exT, ev] at q
    have q := q.wE R F
    cases e1 : fr[i]? with
    | none => rw [e1] at q; exact q.bnd.elim
    | some ov =>
      cases ov with
      | none => rw [e1] at q; exact q.bnd.elim
      | some v =>
        obtain ⟨u, e2, r0⟩ := F.2 i v e1
        simp only [e1] at q
        have q := q.bnd.ret R
        refine ⟨u, e2, ?_⟩
        refine tM_bnd (m := fun fr => ev g fr ia) (rel := fun rho H a b => VR X.K ca rho H a b) R F q fun v2 u2 rho2 s2 H2 x2 R2 F2 r2 q => ?_
        refine s_aug R2 (r0.mono R x2) r2 (q.imp fun z rho3 s3 H3 x3 R3 q w hw => ?_)
        exact PostS.nx q R3 ((F2.mono R2 x3).set hw) (by simp)
theorem sX_if {c : Expr} {bt bf : List Stmt} {ta tb : Ts} (hc : PT X c (tT X.K ca xn g W ic)) (h1 : PSs X bt (sTs X.K ca xn g W ta)) (h2 : PSs X bf (sTs X.K ca xn g W tb)) : PS X (.If c bt bf pos) (sT X.K ca xn g W (.ite ic ta tb)) :=
  PS.weak (ps_if hc h1 h2) fun D sg H ⟨rho, fr, s, R, F, q⟩ => by
    simp only [exT] at q
    refine tS_bnd (m := fun fr => bnd (ev g fr ic) truth) (rel := fun _ _ a b => b = a) R F q fun k k' rho1 s1 H1 x1 R1 F1 e q => ?_
    subst e
    cases k' with
    | true => exact ⟨rho1, fr, s1, R1, F1, q⟩
    | false => exact ⟨rho1, fr, s1, R1, F1, q⟩
end
end PI
end

section
set_option Elab.async false
set_option linter.all false
set_option maxRecDepth 100000
/-! PyS12: loops, calls. -/
namespace PI
open PySem PySem.Spec PyProof.Rows L2 TL RZ
section
variable {X : Cx} {ca : Nat → Addr} {xn : Xn} {g : G} {W : WX} {a b c e : Expr} {ia ib ic : E} {pos : Pos} {st : Stmt} {rest : List Stmt}
theorem sX_for {t : Tg} {k : Ik} {src : Es} {tg iter : Expr} {body : List Stmt} {ib : Ts} (hp : PassesOwn (model X.prog X.w) X.A X.env X.xe) (hc : X.calm = true) (hi : L2.PI X tg iter (tSrc X.K ca xn g W k src)) (hg : PG X tg (gOf X.K t)) (hs : ∀ x, foldedSetIterable iter X.env x = pure x)
    (hb : PSs X body (sTs X.K ca xn g W ib)) : PS X (.For tg iter body [] pos) (sT X.K ca xn g W (.loop t k src ib)) :=
  PS.weak (ps_for hp hc hi hg hb hs) fun D sg H ⟨rho, fr, s, R, F, q⟩ => by
    simp only [exT] at q
    refine ⟨rho, fr, s, R, F, (q.wE R F).imp fun qs rho1 s1 H1 x1 R1 q J SR => ?_⟩
    have F1 := F.mono R x1
    cases htg : tgOk t qs with
    | false => rw [htg] at q; exact q.elim
    | true =>
      rw [htg] at q
      have hp : pairs qs = true → isTup t = true := fun z => by
        unfold tgOk at htg
        rw [z] at htg
        simpa using htg
      refine ⟨fun i m sg2 Hh => ∃ (rho : List Addr) (fr : Fr) (s : S), Ext rho1 H1 rho Hh ∧ RelS X.K ca rho s Hh ∧ RelF X.K ca rho Hh fr sg2 ∧ sg2.length = sg.length ∧ PostS X.K ca xn W D sg.length (forN (exTs g ib) t qs m i fr s) rho Hh,
        ⟨_, rho1, fr, s1, Ext.rfl', R1, F1, rfl, q⟩, ?_⟩
      rintro i m sg2 Hh ⟨rho2, fr2, s2, x2, R2, F2, hl, q2⟩
      have q3 : ∃ fo : Option Val → S → RS, fo none = (fun s => .nx fr2 s) ∧ (m = 0 → ∀ y s, fo (some y) s = .bad) ∧ (∀ m', m = m' + 1 → ∀ v s, fo (some v) s = (match setTgS s t v fr2 with
          | none => .bad
          | some fr' => (match exTs g ib fr' s with
            | .nx fr2 s2 => forN (exTs g ib) t qs m' (i + 1) fr2 s2
            | r => r))) ∧ forN (exTs g ib) t qs m i fr2 = wE (srcAt qs i) fr2 fo := by
        cases m with
        | zero => exact ⟨fun o s => match o with
            | none => .nx fr2 s
            | some _ => .bad, rfl, fun _ _ _ => rfl, fun _ e => (by cases e), rfl⟩
        | succ m' => exact ⟨fun o s => match o with
            | none => .nx fr2 s
            | some v => (match setTgS s t v fr2 with
              | none => .bad
              | some fr' => (match exTs g ib fr' s with
                | .nx fr2 s2 => forN (exTs g ib) t qs m' (i + 1) fr2 s2
                | r => r)), rfl, fun e => (by cases e), fun m2 e v s => (by cases e; rfl), rfl⟩
      obtain ⟨fo, f1, f2, f3, e3⟩ := q3
      rw [e3] at q2
      have q2 : PostS X.K ca xn W D sg2.length (wE (srcAt qs i) fr2 fo s2) rho2 Hh := by rw [hl]; exact q2
      rcases s_src hp (SR.mono R1 x2) R2 (q2.wE R2 F2) with ⟨stp, q4⟩ | ⟨gog, k4⟩
      · rw [f1] at q4
        exact .inl ⟨stp, PostS.nx q4 R2 F2 rfl⟩
      · refine .inr ⟨gog, ?_⟩
        cases m with
        | zero =>
          refine ⟨fun _ _ => False, fun _ _ z => z.elim, fun x H' yl => ?_⟩
          obtain ⟨x5, R5, y, q5, rt⟩ := k4 x H' yl
          rw [f2 rfl] at q5
          exact q5.elim
        | succ m' =>
          refine ⟨fun sg2 Hh => ∃ (rho : List Addr) (fr : Fr) (s : S), Ext rho1 H1 rho Hh ∧ RelS X.K ca rho s Hh ∧ RelF X.K ca rho Hh fr sg2 ∧ sg2.length = sg.length ∧ PostS X.K ca xn W D sg.length (forN (exTs g ib) t qs m' (i + 1) fr s) rho Hh, fun sg' H' z => ⟨m', Nat.lt_succ_self _, z⟩, fun x H' yl => ?_⟩
          obtain ⟨x5, R5, y, q5, rt⟩ := k4 x H' yl
          rw [f3 m' rfl] at q5
          cases e6 : setTgS s2 t y fr2 with
          | none => simp only [e6] at q5; exact q5.elim
          | some fr' =>
            simp only [e6] at q5
            refine s_tgS R5 e6 rt (F2.mono R2 x5) fun sg' F6 _ hl2 => ⟨rho2, fr', s2, R5, F6, ?_⟩
            rw [hl2, hl]
            rw [hl] at q5
            show PostS X.K ca xn W _ _ (exTs g ib fr' s2) _ _
            cases e7 : exTs g ib fr' s2 with
            | nx fr3 s3 =>
              rw [e7] at q5
              intro rho4 H4 sg4 x4 R4 F4 l4
              exact ⟨rho4, fr3, s3, (x2.trans x5).trans x4, R4, F4, l4, q5.ext x4⟩
            | rt v s3 => rw [e7] at q5; exact q5
            | ex x s3 => rw [e7] at q5; exact q5
            | bad => rw [e7] at q5; exact q5.elim
theorem sX_wh {body : List Stmt} {ib : Ts} (hp : PassesOwn (model X.prog X.w) X.A X.env X.xe) (hc : PT X c (tT X.K ca xn g W ic)) (hb : PSs X body (sTs X.K ca xn g W ib)) : PS X (.While c body [] pos) (sT X.K ca xn g W (.wh ic ib)) :=
  PS.weak (ps_while hp hc hb) fun D sg H ⟨rho, fr, s, R, F, q⟩ => by
    simp only [exT] at q
    refine ⟨fun m sg2 Hh => ∃ (rho1 : List Addr) (fr : Fr) (s : S), Ext rho H rho1 Hh ∧ RelS X.K ca rho1 s Hh ∧ RelF X.K ca rho1 Hh fr sg2 ∧ sg2.length = sg.length ∧ PostS X.K ca xn W D sg.length (whN (fun fr => bnd (ev g fr ic) truth) (exTs g ib) m fr s) rho1 Hh, ⟨_, rho, fr, s, Ext.rfl', R, F, rfl, q⟩, ?_⟩
    rintro m sg2 Hh ⟨rho2, fr2, s2, x2, R2, F2, hl, q2⟩
    cases m with
    | zero => exact q2.elim
    | succ m' =>
      have q2 : PostS X.K ca xn W D sg2.length (wE (bnd (ev g fr2 ic) truth) fr2 (fun k s => (match k with
        | false => RS.nx fr2 s
        | true => (match exTs g ib fr2 s with
          | .nx fr2 s2 => whN (fun fr => bnd (ev g fr ic) truth) (exTs g ib) m' fr2 s2
          | r => r))) s2) rho2 Hh := by rw [hl]; exact q2
      refine tS_bnd (m := fun fr => bnd (ev g fr ic) truth) (rel := fun _ _ a b => b = a) R2 F2 q2 fun k k' rho3 s3 H3 x3 R3 F3 e q3 => ?_
      subst e
      cases k' with
      | false => exact PostS.nx q3 R3 F3 rfl
      | true =>
        refine ⟨fun sg2 Hh => ∃ (rho1 : List Addr) (fr : Fr) (s : S), Ext rho H rho1 Hh ∧ RelS X.K ca rho1 s Hh ∧ RelF X.K ca rho1 Hh fr sg2 ∧ sg2.length = sg.length ∧ PostS X.K ca xn W D sg.length (whN (fun fr => bnd (ev g fr ic) truth) (exTs g ib) m' fr s) rho1 Hh, fun sg' H' z => ⟨m', Nat.lt_succ_self _, z⟩, ?_⟩
        refine ⟨rho3, fr2, s3, R3, F3, ?_⟩
        rw [hl] at q3 ⊢
        show PostS X.K ca xn W _ _ (exTs g ib fr2 s3) _ _
        cases e7 : exTs g ib fr2 s3 with
        | nx fr4 s4 =>
          simp only [e7] at q3
          intro rho4 H4 sg4 x4 R4 F4 l4
          exact ⟨rho4, fr4, s4, (x2.trans x3).trans x4, R4, F4, l4, q3.ext x4⟩
        | rt v s4 => simp only [e7] at q3; exact q3
        | ex x s4 => simp only [e7] at q3; exact q3
        | bad => simp only [e7] at q3; exact q3.elim
end
end PI
end

section
set_option Elab.async false
set_option linter.all false
set_option maxRecDepth 100000
/-! PyC2: comprehensions of two fors (without conditions). -/
namespace PI
open PySem PySem.Spec PyProof.Rows L2 TL RZ
/-- no condition -/
def tYes : TT := fun _ H Q => Q true H
theorem SrcR.monoW {K : PySem.W.Frag} {ca : Nat → Addr} {rho rho1 : List Addr} {H H1 : Hp} {q : Src} {J : It} (hp : ∃ d, rho1 = rho ++ d) (hf : ∀ a o u, H a = some (.frz o u) → H1 a = some (.frz o u)) (h : SrcR K ca rho H q J) : SrcR K ca rho1 H1 q J := by
  have get : ∀ {i : Nat} {a : Addr}, rho[i]? = some a → rho1[i]? = some a := fun {i a} e => by
    obtain ⟨d, rfl⟩ := hp
    rw [List.getElem?_append_left (List.getElem?_eq_some_iff.mp e).1]
    exact e
  have tk : ∀ {a : Addr} {vs : List V}, TupK H a vs → TupK H1 a vs := fun ⟨o, ho, e⟩ => ⟨o, ho, hf _ _ _ e⟩
  cases h with
  | tup q r => exact .tup (tk q) (r.monoW hp hf)
  | lst r => exact .lst (r.monoW hp hf)
  | sgn k => exact .sgn k
  | live g => exact .live (get g)
  | rng => exact .rng
  | rngC => exact .rngC
  | enum g => exact .enum (get g)
  | zipL g g2 => exact .zipL (get g) (get g2)
  | zipT q r q2 r2 => exact .zipT (tk q) (r.monoW hp hf) (tk q2) (r2.monoW hp hf)
  | zipM g q2 r2 => exact .zipM (get g) (tk q2) (r2.monoW hp hf)
theorem RelF.monoW {K : PySem.W.Frag} {ca : Nat → Addr} {rho rho1 : List Addr} {H H1 : Hp} {fr : Fr} {sg : L2.St} (hp : ∃ d, rho1 = rho ++ d) (hf : ∀ a o u, H a = some (.frz o u) → H1 a = some (.frz o u)) (F : RelF K ca rho H fr sg) : RelF K ca rho1 H1 fr sg :=
  ⟨F.1, fun i v h => let ⟨u, e, r⟩ := F.2 i v h; ⟨u, e, r.monoW hp hf⟩⟩
section
variable {X : Cx} {ca : Nat → Addr} {xn : Xn} {g : G} {W : WX} {ie : E} {t t1 : Tg} {k k1 : Ik} {src src1 : Es}
theorem s_comp2 {sg : L2.St} {H : Hp} {Q : VK} (h : tI X.K ca xn g W (.comp2 ie t k src t1 k1 src1) sg H Q) :
    tLc2 (tSrc X.K ca xn g W k src) (gOf X.K t) tYes (tSrc X.K ca xn g W0 k1 src1) (gOf X.K t1) tYes (tI X.K ca xn g W0 ie) (tgIx t ++ tgIx t1) (tgIx t1) sg H Q := by
  obtain ⟨rho, fr, s, R, F, q⟩ := h
  simp only [ev] at q
  rw [← bnd_assoc] at q
  refine ⟨rho, fr, s, R, F, q.bnd.imp fun qs rho1 s1 H1 x1 R1 q J SR D hD => ?_⟩
  have F1 := F.mono R x1
  obtain ⟨htg, q⟩ := Post.chk (Post.noEx (E' := fun _ _ _ => False) q)
  have hp : pairs qs = true → isTup t = true := fun z => by
    unfold tgOk at htg
    rw [z] at htg
    simpa using htg
  generalize hst : (fun v acc => match setTg t v (wipeF fr (tgIx t ++ tgIx t1)) with
      | none => (bad : M (List Val))
      | some fr2 => bnd (evs g fr2 src1) fun us => bnd (srcOf k1 us) fun q1 s1 => chk (tgOk t1 q1) (compN (fun y => match setTg t1 y (wipeF fr2 (tgIx t1)) with
        | none => bad
        | some fr3 => bnd (ev g fr3 ie) fun z => ret (some z)) q1 (srcLen q1 s1) 0 acc) s1) = step at q
  -- what is known between the turns
  let Mid : (List Val → M (List Val)) → Hp → Prop := fun rest Hh => ∃ (rho : List Addr) (s : S) (acc : List Val) (zs : List V), Ext rho1 H1 rho Hh ∧ RelS X.K ca rho s Hh ∧ D ∉ rho ∧ Hh D = some (.lst zs) ∧ VRs X.K ca rho Hh acc zs ∧
    Post X.K ca xn (bnd (rest acc) (fun xs => alloc (.lst xs)) s) rho1 H1 (fun a rho' _ H' => ∀ w, VR X.K ca rho' H' a w → Q w H') (fun _ _ _ => False)
  refine ⟨fun i m Hh => Mid (comp2N step qs m i) Hh, ⟨_, rho1, s1, [], [], nothing_upd R1 hD, R1.other hD, R1.nothing hD, upd_same, by simp [VRs], q⟩, ?_⟩
  rintro i m Hh ⟨rho2, s2, acc, zs, x2, R2, nD, eD, r2, q2⟩
  have q3 : ∃ fo : Option Val → M (List Val), fo none = ret acc ∧ (m = 0 → ∀ y, fo (some y) = bad) ∧ (∀ m', m = m' + 1 → ∀ v, fo (some v) = bnd (step v acc) fun acc2 => comp2N step qs m' (i + 1) acc2) ∧ comp2N step qs m i acc = bnd (srcAt qs i) fo := by
    cases m with
    | zero => exact ⟨fun o => match o with
        | none => ret acc
        | some _ => bad, rfl, fun _ _ => rfl, fun _ e => (by cases e), rfl⟩
    | succ m' => exact ⟨fun o => match o with
        | none => ret acc
        | some v => bnd (step v acc) fun acc2 => comp2N step qs m' (i + 1) acc2, rfl, fun e => (by cases e), fun m2 e v => (by cases e; rfl), rfl⟩
  obtain ⟨fo, f1, f2, f3, e3⟩ := q3
  rw [e3, bnd_assoc] at q2
  rcases s_src hp (SR.mono R1 x2) R2 (q2.bnd0 x2) with ⟨st, q4⟩ | ⟨gog, k4⟩
  · refine .inl ⟨st, ?_⟩
    rw [f1] at q4
    have q4 : Post X.K ca xn (alloc (.lst acc) s2) rho1 H1 (fun a rho' _ H' => ∀ w, VR X.K ca rho' H' a w → Q w H') (fun _ _ _ => False) := q4
    refine q4 (rho2 ++ [D]) Hh ⟨?_, fun a o e n => ?_⟩ (R2.adopt nD eD r2) _ ?_
    · obtain ⟨d, hd⟩ := x2.pre
      exact ⟨d ++ [D], by rw [hd, List.append_assoc]⟩
    · obtain ⟨z1, z2⟩ := x2.fr a o e n
      refine ⟨z1, fun z => ?_⟩
      rcases List.mem_append.mp z with z | z
      · exact z2 z
      · rw [List.mem_singleton] at z
        rw [z, hD] at e
        cases e
    · simp only [VR]
      exact ⟨D, rfl, by rw [← R2.len]; simp⟩
  · refine .inr ⟨gog, ?_⟩
    cases m with
    | zero =>
      refine ⟨fun _ => False, fun _ z => z.elim, fun x H' yl => ?_⟩
      obtain ⟨x5, R5, y, q5, rt⟩ := k4 x H' yl
      rw [f2 rfl] at q5
      exact q5.elim
    | succ m' =>
      refine ⟨fun Hh => Mid (comp2N step qs m' (i + 1)) Hh, fun H' z => ⟨m', Nat.lt_succ_self _, z⟩, fun x H' yl => ?_⟩
      obtain ⟨x5, R5, y, q5, rt⟩ := k4 x H' yl
      rw [f3 m' rfl, ← hst] at q5
      cases e6 : setTg t y (wipeF fr (tgIx t ++ tgIx t1)) with
      | none => simp only [e6] at q5; exact q5.elim
      | some fr2 =>
        simp only [e6] at q5
        rw [hst] at q5
        have F5 : RelF X.K ca rho2 H' (wipeF fr (tgIx t ++ tgIx t1)) (L2.wipe sg (tgIx t ++ tgIx t1)) := ((F1.mono R1 x2).mono R2 x5).wipe _
        refine s_tg e6 rt F5 fun sg2 F6 h1 h2 => ⟨wipe_eq (fun j hj => h1 j fun z => hj (List.mem_append_left _ z)) h2, ?_⟩
        unfold tYes
        simp only [if_true]
        have q6 : Post X.K ca xn (bnd (bnd (evs g fr2 src1) (srcOf k1)) (fun q1 => bnd (bnd (fun s1 => chk (tgOk t1 q1) (compN (fun y => match setTg t1 y (wipeF fr2 (tgIx t1)) with
          | none => bad
          | some fr3 => bnd (ev g fr3 ie) fun z => ret (some z)) q1 (srcLen q1 s1) 0 acc) s1) fun acc2 => comp2N step qs m' (i + 1) acc2) fun xs => alloc (.lst xs)) s2) rho1 H1 (fun a rho' _ H' => ∀ w, VR X.K ca rho' H' a w → Q w H') (fun _ _ _ => False) := by
          rw [bnd_assoc, bnd_assoc] at q5
          rw [bnd_assoc]
          simp only [bnd_assoc] at q5 ⊢
          exact q5
        refine ⟨rho2, fr2, s2, R5, F6, (q6.bnd0 (x2.trans x5)).imp fun q1 rho7 s7 H7 x7 R7 q7 J1 SR1 => ?_⟩
        obtain ⟨eD7, nD7⟩ := (x5.trans x7).fr D _ eD nD
        have F7 := F6.mono R5 x7
        have q8 : Post X.K ca xn (chk (tgOk t1 q1) (bnd (bnd (compN (fun y => match setTg t1 y (wipeF fr2 (tgIx t1)) with
          | none => bad
          | some fr3 => bnd (ev g fr3 ie) fun z => ret (some z)) q1 (srcLen q1 s7) 0 acc) fun acc2 => comp2N step qs m' (i + 1) acc2) fun xs => alloc (.lst xs)) s7) rho1 H1 (fun a rho' _ H' => ∀ w, VR X.K ca rho' H' a w → Q w H') (fun _ _ _ => False) := by
          cases ez : tgOk t1 q1 with
          | true =>
            unfold bnd at q7 ⊢
            simp only [ez, chk] at q7 ⊢
            exact q7
          | false =>
            unfold bnd at q7
            simp only [ez, chk, bad] at q7
            exact q7.elim
        obtain ⟨htg1, q8⟩ := Post.chk q8
        have hp1 : pairs q1 = true → isTup t1 = true := fun z => by
          unfold tgOk at htg1
          rw [z] at htg1
          simpa using htg1
        generalize hst1 : (fun y => match setTg t1 y (wipeF fr2 (tgIx t1)) with
          | none => (bad : M (Option Val))
          | some fr3 => bnd (ev g fr3 ie) fun z => ret (some z)) = istep at q8
        have racc7 : VRs X.K ca rho7 H7 acc zs := (r2.mono R2 x5).mono R5 x7
        let In : Nat → Nat → Hp → Prop := fun j n Hi => ∃ (rho : List Addr) (s : S) (acc : List Val) (zs : List V), Ext rho1 H1 rho Hi ∧ (∃ d, rho = rho7 ++ d) ∧ (∀ a o u, H7 a = some (.frz o u) → Hi a = some (.frz o u)) ∧ RelS X.K ca rho s Hi ∧ D ∉ rho ∧ Hi D = some (.lst zs) ∧ VRs X.K ca rho Hi acc zs ∧
          Post X.K ca xn (bnd (bnd (compN istep q1 n j acc) fun acc2 => comp2N step qs m' (i + 1) acc2) (fun xs => alloc (.lst xs)) s) rho1 H1 (fun a rho' _ H' => ∀ w, VR X.K ca rho' H' a w → Q w H') (fun _ _ _ => False)
        refine ⟨In, ⟨_, rho7, s7, acc, zs, (x2.trans x5).trans x7, ⟨[], by simp⟩, fun _ _ _ z => z, R7, nD7, eD7, racc7, q8⟩, ?_⟩
        rintro j n Hi ⟨rhoi, si, acci, zsi, xi, pi, ki, Ri, nDi, eDi, ri, qi⟩
        have q9 : ∃ fo : Option Val → M (List Val), fo none = ret acci ∧ (n = 0 → ∀ y, fo (some y) = bad) ∧ (∀ n', n = n' + 1 → ∀ v, fo (some v) = bnd (istep v) fun y => (match y with
            | some z => chk (decide (acci.length < lim)) (compN istep q1 n' (j + 1) (acci ++ [z]))
            | none => compN istep q1 n' (j + 1) acci)) ∧ compN istep q1 n j acci = bnd (srcAt q1 j) fo := by
          cases n with
          | zero => exact ⟨fun o => match o with
              | none => ret acci
              | some _ => bad, rfl, fun _ _ => rfl, fun _ e => (by cases e), rfl⟩
          | succ n' => exact ⟨fun o => match o with
              | none => ret acci
              | some v => bnd (istep v) fun y => (match y with
                | some z => chk (decide (acci.length < lim)) (compN istep q1 n' (j + 1) (acci ++ [z]))
                | none => compN istep q1 n' (j + 1) acci), rfl, fun e => (by cases e), fun m2 e v => (by cases e; rfl), rfl⟩
        obtain ⟨fo1, g1, g2, g3, e9⟩ := q9
        rw [e9, bnd_assoc, bnd_assoc] at qi
        rcases s_src hp1 (SR1.monoW pi ki) Ri (qi.bnd0 xi) with ⟨st1, q10⟩ | ⟨gog1, k10⟩
        · refine .inl ⟨st1, rhoi, si, acci, zsi, xi, Ri, nDi, eDi, ri, ?_⟩
          rw [g1] at q10
          exact q10
        · refine .inr ⟨gog1, ?_⟩
          cases n with
          | zero =>
            refine ⟨fun _ => False, fun _ z => z.elim, fun x H' yl => ?_⟩
            obtain ⟨_, _, y, q11, _⟩ := k10 x H' yl
            rw [g2 rfl] at q11
            exact q11.elim
          | succ n' =>
            refine ⟨fun Hz => In (j + 1) n' Hz, fun H' z => ⟨n', Nat.lt_succ_self _, z⟩, fun x H' yl => ?_⟩
            obtain ⟨x11, R11, y, q11, rt1⟩ := k10 x H' yl
            have hstep : istep y = (match setTg t1 y (wipeF fr2 (tgIx t1)) with
              | none => (bad : M (Option Val))
              | some fr3 => bnd (ev g fr3 ie) fun z => ret (some z)) := by rw [← hst1]
            rw [g3 n' rfl, hstep] at q11
            cases e12 : setTg t1 y (wipeF fr2 (tgIx t1)) with
            | none => simp only [e12] at q11; exact q11.elim
            | some fr3 =>
              simp only [e12] at q11
              have F11 : RelF X.K ca rhoi H' (wipeF fr2 (tgIx t1)) (L2.wipe sg2 (tgIx t1)) := ((F7.monoW pi ki).mono Ri x11).wipe _
              refine s_tg e12 rt1 F11 fun sg3 F12 h3 h4 => ⟨wipe_eq h3 h4, ?_⟩
              rw [bnd_assoc, bnd_assoc] at q11
              refine ⟨rhoi, fr3, si, R11, F12, (q11.bnd0 (xi.trans x11)).imp fun z rho13 s13 H13 x13 R13 q13 w r13 => ?_⟩
              obtain ⟨eD13, nD13⟩ := (x11.trans x13).fr D _ eDi nDi
              have racc : VRs X.K ca rho13 H13 acci zsi := (ri.mono Ri x11).mono R11 x13
              have q13 : Post X.K ca xn (bnd (bnd (chk (decide (acci.length < lim)) (compN istep q1 n' (j + 1) (acci ++ [z]))) fun acc2 => comp2N step qs m' (i + 1) acc2) (fun xs => alloc (.lst xs)) s13) rho1 H1 (fun a rho' _ H' => ∀ w, VR X.K ca rho' H' a w → Q w H') (fun _ _ _ => False) := by
                rw [bnd_assoc]
                exact q13
              have hl : acci.length < lim := by
                cases e14 : decide (acci.length < lim) with
                | true => exact of_decide_eq_true e14
                | false => rw [e14] at q13; exact q13.elim
              rw [decide_eq_true hl] at q13
              obtain ⟨d1, hd1⟩ := pi
              obtain ⟨d2, hd2⟩ := (x11.trans x13).pre
              refine ⟨zsi, eD13, by rw [← racc.len, ← lim_eq]; exact hl, rho13, s13, acci ++ [z], zsi ++ [w], ?_, ⟨d1 ++ d2, by rw [hd2, hd1, List.append_assoc]⟩, fun a o u e => keepFrz eD13 a o u ?_, R13.off nD13 eD13, nD13, upd_same, ?_, q13⟩
              · have x14 := (xi.trans x11).trans x13
                exact ⟨x14.pre, fun a o e n => let ⟨z1, z2⟩ := x14.fr a o e n; ⟨by rw [upd_ne (ne_of_none e hD)]; exact z1, z2⟩⟩
              · exact ((x11.trans x13).fr a _ (ki a o u e) (Ri.not (ki a o u e) (by intro _ z; cases z) (by intro _ _ _ z; cases z))).1
              · exact (racc.append (VRs.one r13)).monoW ⟨[], by simp⟩ (keepFrz eD13)
end
end PI
end

section
set_option Elab.async false
set_option linter.all false
set_option maxRecDepth 100000
/-! PyS13: what a run leaves of the old objects. -/
namespace PI
open PySem (Str)
structure Pres (s s' : S) : Prop where
  w : s'.w ≤ s.w
  len : s.st.length ≤ s'.st.length
  old : ∀ i, i < s.st.length → i < s'.w → s'.st[i]? = s.st[i]? ∨ ∃ o, s'.st[i]? = some o ∧ obRef o = false
theorem Pres.rfl' {s : S} : Pres s s := ⟨Nat.le_refl _, Nat.le_refl _, fun _ _ _ => .inl rfl⟩
theorem Pres.trans {s s' s'' : S} (a : Pres s s') (b : Pres s' s'') : Pres s s'' := by
  refine ⟨Nat.le_trans b.w a.w, Nat.le_trans a.len b.len, fun i h1 h2 => ?_⟩
  rcases b.old i (Nat.lt_of_lt_of_le h1 a.len) h2 with e | e
  · rcases a.old i h1 (Nat.lt_of_lt_of_le h2 b.w) with e2 | ⟨o, e2, e3⟩
    · exact .inl (e.trans e2)
    · exact .inr ⟨o, e.trans e2, e3⟩
  · exact .inr e
def PresR {α : Type} (s : S) (r : R α) : Prop := match r with
  | .ok _ s' => Pres s s'
  | .ex _ s' => Pres s s'
  | .bad => True
/-- a run that keeps -/
def Pm {α : Type} (m : M α) : Prop := ∀ s, PresR s (m s)
section
variable {α β : Type}
theorem PresR.trans {s s' : S} {r : R α} (a : Pres s s') (b : PresR s' r) : PresR s r := by
  cases r with
  | ok x s2 => exact a.trans b
  | ex x s2 => exact a.trans b
  | bad => trivial
theorem pm_ret (a : α) : Pm (ret a) := fun s => Pres.rfl'
theorem pm_bad : Pm (bad : M α) := fun s => trivial
theorem pm_bnd {m : M α} {f : α → M β} (h : Pm m) (k : ∀ a, Pm (f a)) : Pm (bnd m f) := fun s => by
  have h1 := h s
  unfold bnd
  cases e : m s with
  | ok a s' => rw [e] at h1; exact PresR.trans h1 (k a s')
  | ex x s' => rw [e] at h1; exact h1
  | bad => trivial
theorem pm_raise (x : Ex) : Pm (raise x : M α) := fun s => Pres.rfl'
theorem pm_look (i : Nat) : Pm (look i) := fun s => by
  unfold look
  cases s.st[i]? with
  | none => trivial
  | some o => exact Pres.rfl'
theorem pm_opt (o : Option α) : Pm (opt o) := by
  cases o with
  | none => exact pm_bad
  | some a => exact pm_ret a
theorem pm_chk {c : Bool} {m : M α} (h : Pm m) : Pm (chk c m) := by
  cases c with
  | true => exact h
  | false => exact pm_bad
theorem pm_alloc (o : Ob) : Pm (alloc o) := fun s => by
  refine ⟨Nat.le_refl _, by simp, fun i h1 h2 => .inl ?_⟩
  exact List.getElem?_append_left h1
theorem pm_put (i : Nat) (o : Ob) : Pm (put i o) := fun s => by
  show Pres s ⟨s.st.set i o, if obRef o then min s.w i else s.w⟩
  refine ⟨?_, by simp, fun j h1 h2 => ?_⟩
  · show (if obRef o then min s.w i else s.w) ≤ s.w
    split
    · exact Nat.min_le_left _ _
    · exact Nat.le_refl _
  · by_cases e : i = j
    · subst e
      have h2 : i < (if obRef o then min s.w i else s.w) := h2
      split at h2
      · omega
      · rename_i ho
        exact .inr ⟨o, List.getElem?_set_self h1, by simpa using ho⟩
    · exact .inl (List.getElem?_set_ne e)
theorem pm_noEx {m : M α} (h : Pm m) : Pm (noEx m) := fun s => by
  have h1 := h s
  unfold noEx
  cases e : m s with
  | ok a s' => rw [e] at h1; exact h1
  | ex x s' => trivial
  | bad => trivial
theorem pm_deepM (v : Val) : Pm (deepM v) := fun s => by
  unfold deepM
  split
  · exact Pres.rfl'
  · trivial
theorem pm_deepRM (v : Val) : Pm (deepRM v) := fun s => by
  unfold deepRM
  split
  · exact Pres.rfl'
  · trivial
theorem pm_fun {m : S → M α} (h : ∀ s, Pm (m s)) : Pm (fun s => m s s) := fun s => h s s
/-- the state is looked at -/
theorem pm_at {m : M α} (h : ∀ s, PresR s (m s)) : Pm m := h
end
theorem pm_lst (r : Nat) {α : Type} {f : List Val → M α} (h : ∀ xs, Pm (f xs)) : Pm (bnd (look r) fun o => bnd (opt (lstOf o)) f) := pm_bnd (pm_look r) fun o => pm_bnd (pm_opt _) h
theorem pm_opv (o : Op) (a b : Val) : Pm (opv o a b) := by
  unfold opv
  split <;> first | exact pm_bad | exact pm_ret _ | exact pm_chk (pm_ret _) | exact pm_lst _ fun _ => pm_lst _ fun _ => pm_chk (pm_alloc _) | exact pm_lst _ fun _ => pm_chk (pm_alloc _)
theorem pm_items (v : Val) : Pm (itemsOf v) := by
  unfold itemsOf
  split <;> first | exact pm_bad | exact pm_ret _ | exact pm_bnd (pm_look _) fun _ => pm_opt _
theorem pm_idx (a b : Val) : Pm (idxv a b) := by
  unfold idxv
  split <;> first | exact pm_bad | exact pm_opt _ | exact pm_bnd (pm_opt _) fun _ => pm_ret _ | exact pm_lst _ fun _ => pm_opt _
theorem pm_slc (a : Val) (lo hi : Option Int) : Pm (slcv a lo hi) := by
  unfold slcv
  split <;> first | exact pm_bad | exact pm_ret _ | exact pm_alloc _ | exact pm_lst _ fun _ => pm_alloc _
theorem pm_rev (a : Val) : Pm (revv a) := by
  unfold revv
  split <;> first | exact pm_bad | exact pm_lst _ fun _ => pm_alloc _
theorem pm_truth (a : Val) : Pm (truth a) := by
  unfold truth
  split <;> first | exact pm_bad | exact pm_ret _
theorem pm_intM {m : M Val} (h : Pm m) : Pm (intM m) := pm_bnd h fun v => by split <;> first | exact pm_bad | exact pm_ret _
section
variable {g : G} (hg : ∀ f vs, Pm (g.call f vs))
include hg
theorem pm_eqv (a b : Val) : Pm (eqv g a b) := fun s => by
  unfold eqv
  split
  · split
    · split
      · exact pm_chk (pm_bnd (pm_noEx (hg _ _)) (fun v => by split <;> first | exact pm_bad | exact pm_ret _)) s
      · exact pm_chk (pm_bnd (pm_noEx (hg _ _)) (fun v => by split <;> first | exact pm_bad | exact pm_ret _)) s
    · trivial
  · exact pm_bnd (pm_deepM a) (fun x => pm_bnd (pm_deepM b) fun y => pm_ret _) s
theorem pm_cmp (o : Cp) (a b : Val) : Pm (cmpv g o a b) := by
  unfold cmpv
  split
  · exact pm_eqv hg a b
  · exact pm_bnd (pm_eqv hg a b) fun _ => pm_ret _
  · exact pm_ret _
  · exact pm_ret _
  · split
    · exact pm_ret _
    · exact pm_bnd (pm_items _) fun _ => pm_bnd (pm_deepM _) fun _ => pm_bnd (pm_deepM _) fun t => by split <;> first | exact pm_bad | exact pm_ret _
  · split
    · exact pm_ret _
    · exact pm_bnd (pm_items _) fun _ => pm_bnd (pm_deepM _) fun _ => pm_bnd (pm_deepM _) fun t => by split <;> first | exact pm_bad | exact pm_ret _
  · split <;> first | exact pm_bad | exact pm_opt _
theorem pm_bf (b : Bf) (vs : List Val) : Pm (bfv g b vs) := by
  unfold bfv
  split <;> first
    | exact pm_bad
    | exact pm_ret _
    | exact pm_alloc _
    | exact pm_chk (pm_ret _)
    | exact pm_chk (pm_alloc _)
    | exact pm_lst _ fun _ => pm_ret _
    | exact pm_lst _ fun _ => pm_alloc _
    | exact pm_lst _ fun _ => pm_bnd (pm_opt _) fun _ => pm_ret _
    | exact pm_lst _ fun _ => pm_bnd (pm_opt _) fun _ => pm_bnd (pm_opt _) fun _ => pm_ret _
    | exact pm_lst _ fun _ => pm_chk (pm_bnd (pm_opt _) fun _ => pm_alloc _)
    | exact pm_lst _ fun _ => pm_chk (by split <;> first | exact pm_alloc _ | exact pm_bnd (pm_opt _) fun _ => pm_alloc _)
    | exact pm_bnd (pm_deepRM _) fun _ => pm_bnd (pm_opt _) fun _ => pm_chk (pm_ret _)
    | (refine pm_bnd (pm_look _) fun o => ?_
       split
       · split
         · exact pm_bnd (pm_noEx (hg _ _)) fun v => by split <;> first | exact pm_bad | exact pm_ret _
         · exact pm_bad
       · exact pm_bad)
omit hg in
theorem pm_bm (b : Bm) (a : Val) (vs : List Val) : Pm (bmv b a vs) := by
  unfold bmv
  split <;> first
    | exact pm_bad
    | exact pm_lst _ fun _ => pm_chk (pm_bnd (pm_put _ _) fun _ => pm_ret _)
    | exact pm_lst _ fun _ => pm_bnd (pm_put _ _) fun _ => pm_ret _
    | exact pm_lst _ fun _ => pm_bnd (pm_opt _) fun _ => pm_bnd (pm_put _ _) fun _ => pm_ret _
    | exact pm_lst _ fun _ => pm_chk (pm_bnd (pm_opt _) fun _ => pm_bnd (pm_opt _) fun _ => pm_bnd (pm_put _ _) fun _ => pm_ret _)
    | exact pm_bnd (pm_opt _) fun _ => pm_bnd (pm_opt _) fun _ => pm_ret _
    | exact pm_bnd (pm_items _) fun _ => pm_bnd (pm_opt _) fun _ => pm_chk (pm_ret _)
    | exact pm_chk (pm_alloc _)
    | exact pm_lst _ fun _ => pm_bnd (pm_deepM _) fun _ => pm_bnd (pm_deepM _) fun t => by split <;> first | exact pm_bad | exact pm_bnd (pm_opt _) fun _ => pm_ret _
omit hg in
theorem pm_bmChk (b : Bm) (a : Val) : Pm (bmChk b a) := by
  unfold bmChk
  split <;> first | exact pm_bad | exact pm_chk (pm_ret _) | exact pm_chk (pm_lst _ fun _ => pm_ret _)
omit hg in
theorem pm_srcOf (k : Ik) (vs : List Val) : Pm (srcOf k vs) := by
  unfold srcOf
  split <;> first | exact pm_bad | exact pm_ret _ | exact pm_chk (pm_ret _) | exact pm_lst _ fun _ => pm_ret _ | exact pm_lst _ fun _ => pm_lst _ fun _ => pm_ret _
omit hg in
theorem pm_srcAt (q : Src) (i : Nat) : Pm (srcAt q i) := by
  unfold srcAt
  split <;> first | exact pm_ret _ | exact pm_lst _ fun _ => pm_ret _ | exact pm_lst _ fun _ => pm_chk (pm_ret _) | exact pm_lst _ fun _ => pm_lst _ fun _ => pm_ret _
omit hg in
theorem pm_comp2 {step : Val → List Val → M (List Val)} (h : ∀ v acc, Pm (step v acc)) (q : Src) : ∀ m i acc, Pm (comp2N step q m i acc)
  | 0, i, acc => by
    unfold comp2N
    exact pm_bnd (pm_srcAt _ _) fun o => by split <;> first | exact pm_ret _ | exact pm_bad
  | m + 1, i, acc => by
    unfold comp2N
    refine pm_bnd (pm_srcAt _ _) fun o => ?_
    split
    · exact pm_ret _
    · exact pm_bnd (h _ _) fun _ => pm_comp2 h q m _ _
omit hg in
theorem pm_comp {step : Val → M (Option Val)} (h : ∀ v, Pm (step v)) (q : Src) : ∀ m i acc, Pm (compN step q m i acc)
  | 0, i, acc => pm_bnd (pm_srcAt q i) fun o => by split <;> first | exact pm_bad | exact pm_ret _
  | m + 1, i, acc => pm_bnd (pm_srcAt q i) fun o => by
    split
    · exact pm_ret _
    · refine pm_bnd (h _) fun y => ?_
      split
      · exact pm_chk (pm_comp h q m _ _)
      · exact pm_comp h q m _ _
omit hg in
theorem pm_app {α : Type} {m : M α} {s : S} (h : Pm m) : PresR s (m s) := h s
mutual
theorem pm_ev (fr : Fr) : ∀ e : E, Pm (ev g fr e)
  | .no => by simp only [ev]; exact pm_ret _
  | .k v => by simp only [ev]; exact pm_ret _
  | .dk v => by simp only [ev]; exact pm_ret _
  | .var i => by simp only [ev]; split <;> first | exact pm_bad | exact pm_ret _
  | .tup es => by simp only [ev]; exact pm_bnd (pm_evs fr es) fun _ => pm_chk (pm_ret _)
  | .lst es => by simp only [ev]; exact pm_bnd (pm_evs fr es) fun _ => pm_chk (pm_alloc _)
  | .op o a b => by simp only [ev]; exact pm_bnd (pm_ev fr a) fun _ => pm_bnd (pm_ev fr b) fun _ => pm_opv _ _ _
  | .neg a => by simp only [ev]; exact pm_bnd (pm_ev fr a) fun _ => by split <;> first | exact pm_bad | exact pm_ret _
  | .not a => by simp only [ev]; exact pm_bnd (pm_ev fr a) fun _ => pm_bnd (pm_truth _) fun _ => pm_ret _
  | .and a b => by
    simp only [ev]
    exact pm_bnd (pm_ev fr a) fun _ => pm_bnd (pm_truth _) fun k => by
      split
      · exact pm_ev fr b
      · exact pm_ret _
  | .or a b => by
    simp only [ev]
    exact pm_bnd (pm_ev fr a) fun _ => pm_bnd (pm_truth _) fun k => by
      split
      · exact pm_ret _
      · exact pm_ev fr b
  | .ite c a b => by
    simp only [ev]
    exact pm_bnd (pm_ev fr c) fun _ => pm_bnd (pm_truth _) fun k => by
      split
      · exact pm_ev fr a
      · exact pm_ev fr b
  | .cmp o a b => by simp only [ev]; exact pm_bnd (pm_ev fr a) fun _ => pm_bnd (pm_ev fr b) fun _ => pm_bnd (pm_cmp hg _ _ _) fun _ => pm_ret _
  | .chain o o2 a b c => by
    simp only [ev]
    exact pm_bnd (pm_ev fr a) fun _ => pm_bnd (pm_ev fr b) fun _ => pm_bnd (pm_cmp hg _ _ _) fun k => by
      split
      · exact pm_bnd (pm_ev fr c) fun _ => pm_bnd (pm_cmp hg _ _ _) fun _ => pm_ret _
      · exact pm_ret _
  | .idx a b => by simp only [ev]; exact pm_bnd (pm_ev fr a) fun _ => pm_bnd (pm_ev fr b) fun _ => pm_idx _ _
  | .slc a lo hi => by
    simp only [ev]
    refine pm_bnd (pm_ev fr a) fun _ => pm_bnd ?_ fun _ => pm_bnd ?_ fun _ => pm_slc _ _ _
    · split
      · exact pm_ret _
      · exact pm_intM (pm_ev fr lo)
    · split
      · exact pm_ret _
      · exact pm_intM (pm_ev fr hi)
  | .rev a => by simp only [ev]; exact pm_bnd (pm_ev fr a) fun _ => pm_rev _
  | .attr a f => by
    simp only [ev]
    exact pm_bnd (pm_ev fr a) fun x s => by
      split
      · split
        · exact Pres.rfl'
        · trivial
      · trivial
  | .xat f => by simp only [ev]; split <;> first | exact pm_bad | exact pm_chk (pm_ret _)
  | .call f es => by simp only [ev]; exact pm_bnd (pm_evs fr es) fun _ => hg _ _
  | .make c es => by
    simp only [ev]
    exact pm_bnd (pm_evs fr es) fun _ => by
      split
      · exact pm_bnd (pm_alloc _) fun _ => pm_bnd (hg _ _) fun _ => by split <;> first | exact pm_bad | exact pm_ret _
      · exact pm_bad
  | .meth a m es => by
    simp only [ev]
    exact pm_bnd (pm_ev fr a) fun x s => by
      split
      · split
        · exact pm_bnd (pm_evs fr es) (fun _ => hg _ _) s
        · trivial
      · trivial
  | .bf b es => by simp only [ev]; exact pm_bnd (pm_evs fr es) fun _ => pm_bf hg _ _
  | .bm b a es => by simp only [ev]; exact pm_bnd (pm_ev fr a) fun _ => pm_bnd (pm_bmChk _ _) fun _ => pm_bnd (pm_evs fr es) fun _ => pm_bm _ _ _
  | .comp elt t k src c => by
    simp only [ev]
    refine pm_bnd (pm_evs fr src) fun _ => pm_bnd (pm_srcOf _ _) fun q s => pm_noEx (pm_chk (pm_bnd (pm_comp (fun v => ?_) q _ _ _) fun _ => pm_alloc _)) s
    split
    · exact pm_bad
    · rename_i fr' _
      refine pm_bnd ?_ fun b => ?_
      · split
        · exact pm_ret _
        · exact pm_bnd (pm_ev fr' c) fun _ => pm_truth _
      · split
        · exact pm_bnd (pm_ev fr' elt) fun _ => pm_ret _
        · exact pm_ret _
  | .comp2 elt t k src t1 k1 src1 => by
    simp only [ev]
    refine pm_bnd (pm_evs fr src) fun _ => pm_bnd (pm_srcOf _ _) fun q s => pm_noEx (pm_chk (pm_bnd (pm_comp2 (fun v acc => ?_) q _ _ _) fun _ => pm_alloc _)) s
    split
    · exact pm_bad
    · rename_i fr2 _
      refine pm_bnd (pm_evs fr2 src1) fun _ => pm_bnd (pm_srcOf _ _) fun q1 s1 => pm_chk (pm_comp (fun y => ?_) q1 _ _ _) s1
      split
      · exact pm_bad
      · rename_i fr3 _
        exact pm_bnd (pm_ev fr3 elt) fun _ => pm_ret _
  | .isi a ts => by
    simp only [ev]
    exact pm_bnd (pm_ev fr a) fun x s => by
      split
      · exact Pres.rfl'
      · trivial
  | .fstr a => by simp only [ev]; exact pm_bnd (pm_ev fr a) fun _ => by split <;> first | exact pm_bad | exact pm_ret _
theorem pm_evs (fr : Fr) : ∀ es : Es, Pm (evs g fr es)
  | .nil => by simp only [evs]; exact pm_ret _
  | .cons e r => by simp only [evs]; exact pm_bnd (pm_ev fr e) fun _ => pm_bnd (pm_evs fr r) fun _ => pm_ret _
end
/-! ### statements -/
def PresS (s : S) (r : RS) : Prop := match r with
  | .nx _ s' => Pres s s'
  | .rt _ s' => Pres s s'
  | .ex _ _ s' => Pres s s'
  | .bad => True
omit hg in
theorem PresS.trans {s s' : S} {r : RS} (a : Pres s s') (b : PresS s' r) : PresS s r := by
  cases r with
  | nx x s2 => exact a.trans b
  | rt x s2 => exact a.trans b
  | ex x y s2 => exact a.trans b
  | bad => trivial
omit hg in
theorem ps_wE {α : Type} {m : M α} {fr : Fr} {k : α → S → RS} (h : Pm m) (hk : ∀ a s, PresS s (k a s)) (s : S) : PresS s (wE m fr k s) := by
  have h1 := h s
  unfold wE
  cases e : m s with
  | ok a s' => rw [e] at h1; exact PresS.trans h1 (hk a s')
  | ex x s' => rw [e] at h1; exact h1
  | bad => trivial
omit hg in
theorem ps_nx {s : S} {fr : Fr} : PresS s (.nx fr s) := Pres.rfl'
omit hg in
theorem ps_rt {s : S} {v : Val} : PresS s (.rt v s) := Pres.rfl'
omit hg in
theorem ps_ex {s : S} {fr : Fr} {x : Ex} : PresS s (.ex x fr s) := Pres.rfl'
omit hg in
theorem pm_setFld (x : Val) (f : Str) (v : Val) : Pm (setFld g x f v) := by
  unfold setFld
  split
  · refine pm_bnd (pm_look _) fun o => ?_
    split
    · exact pm_chk (pm_put _ _)
    · exact pm_bad
  · exact pm_bad
omit hg in
theorem pm_setSub (x i v : Val) : Pm (setSub x i v) := by
  unfold setSub
  split
  · exact pm_lst _ fun _ => pm_bnd (pm_opt _) fun _ => pm_put _ _
  · exact pm_bad
omit hg in
theorem pm_aug (o : Op) (a b : Val) : Pm (augv o a b) := by
  unfold augv
  split <;> first | exact pm_bad | exact pm_ret _ | exact pm_chk (pm_lst _ fun _ => pm_lst _ fun _ => pm_chk (pm_bnd (pm_put _ _) fun _ => pm_ret _))
omit hg in
theorem ps_for {body : Fr → S → RS} (h : ∀ fr s, PresS s (body fr s)) (t : Tg) (q : Src) : ∀ m i fr s, PresS s (forN body t q m i fr s)
  | 0, i, fr, s => ps_wE (pm_srcAt q i) (fun o s => by split <;> first | exact ps_nx | trivial) s
  | m + 1, i, fr, s => ps_wE (pm_srcAt q i) (fun o s => by
    split
    · exact ps_nx
    · split
      · trivial
      · rename_i fr' _
        have h1 := h fr' s
        cases e : body fr' s with
        | nx fr2 s2 => rw [e] at h1; exact PresS.trans h1 (ps_for h t q m _ _ _)
        | rt v s2 => rw [e] at h1; exact h1
        | ex x fr2 s2 => rw [e] at h1; exact h1
        | bad => trivial) s
omit hg in
theorem ps_wh {test : Fr → M Bool} {body : Fr → S → RS} (ht : ∀ fr, Pm (test fr)) (h : ∀ fr s, PresS s (body fr s)) : ∀ m fr s, PresS s (whN test body m fr s)
  | 0, fr, s => trivial
  | m + 1, fr, s => ps_wE (ht fr) (fun k s => by
    split
    · exact ps_nx
    · have h1 := h fr s
      cases e : body fr s with
      | nx fr2 s2 => rw [e] at h1; exact PresS.trans h1 (ps_wh ht h m _ _)
      | rt v s2 => rw [e] at h1; exact h1
      | ex x fr2 s2 => rw [e] at h1; exact h1
      | bad => trivial) s
end
mutual
theorem ps_T {g : G} (hg : ∀ f vs, Pm (g.call f vs)) : ∀ (t : T) (fr : Fr) (s : S), PresS s (exT g t fr s)
  | .no, fr, s => by simp only [exT]; trivial
  | .pass, fr, s => by simp only [exT]; exact ps_nx
  | .ex e, fr, s => by simp only [exT]; exact ps_wE (pm_ev hg fr e) (fun _ _ => ps_nx) s
  | .ret e, fr, s => by simp only [exT]; exact ps_wE (pm_ev hg fr e) (fun _ _ => ps_rt) s
  | .asg t e, fr, s => by
    simp only [exT]
    exact ps_wE (pm_ev hg fr e) (fun _ s => by split <;> first | exact ps_nx | trivial) s
  | .par i j a b, fr, s => by simp only [exT]; exact ps_wE (pm_bnd (pm_ev hg fr a) fun _ => pm_bnd (pm_ev hg fr b) fun _ => pm_ret _) (fun _ _ => ps_nx) s
  | .sub a b e, fr, s => by simp only [exT]; exact ps_wE (pm_bnd (pm_ev hg fr e) fun _ => pm_bnd (pm_ev hg fr a) fun _ => pm_bnd (pm_ev hg fr b) fun _ => pm_setSub _ _ _) (fun _ _ => ps_nx) s
  | .fld a f e, fr, s => by simp only [exT]; exact ps_wE (pm_bnd (pm_ev hg fr e) fun _ => pm_bnd (pm_ev hg fr a) fun _ => pm_setFld _ _ _) (fun _ _ => ps_nx) s
  | .aug i o e, fr, s => by simp only [exT]; exact ps_wE (pm_bnd (pm_ev hg fr _) fun _ => pm_bnd (pm_ev hg fr e) fun _ => pm_aug _ _ _) (fun _ _ => ps_nx) s
  | .ite c a b, fr, s => by
    simp only [exT]
    exact ps_wE (pm_bnd (pm_ev hg fr c) fun _ => pm_truth _) (fun k s => by
      split
      · exact ps_Ts hg a fr s
      · exact ps_Ts hg b fr s) s
  | .loop t k src b, fr, s => by
    simp only [exT]
    exact ps_wE (pm_bnd (pm_evs hg fr src) fun _ => pm_srcOf _ _) (fun q s => by
      split
      · exact ps_for (fun fr s => ps_Ts hg b fr s) t q _ _ _ _
      · trivial) s
  | .wh c b, fr, s => by simp only [exT]; exact ps_wh (fun fr => pm_bnd (pm_ev hg fr c) fun _ => pm_truth _) (fun fr s => ps_Ts hg b fr s) _ _ _
  | .raise c e, fr, s => by
    simp only [exT]
    split
    · exact (Pres.rfl' : Pres s s)
    · exact ps_wE (pm_ev hg fr e) (fun _ _ => ps_ex) s
  | .tr b c nm su, fr, s => by
    simp only [exT]
    have h1 := ps_Ts hg b fr s
    cases e : exTs g b fr s with
    | nx fr2 s2 => rw [e] at h1; exact h1
    | rt v s2 => rw [e] at h1; exact h1
    | bad => trivial
    | ex x fr2 s2 =>
      rw [e] at h1
      simp only
      split
      · have h2 := ps_Ts (g := g.mark x) hg su (clr nm fr2) s2
        cases e2 : exTs (g.mark x) su (clr nm fr2) s2 with
        | nx fr3 s3 => rw [e2] at h2; exact Pres.trans h1 h2
        | rt v s3 => rw [e2] at h2; exact Pres.trans h1 h2
        | bad => trivial
        | ex x fr3 s3 => trivial
      · exact h1
      · trivial
theorem ps_Ts {g : G} (hg : ∀ f vs, Pm (g.call f vs)) : ∀ (t : Ts) (fr : Fr) (s : S), PresS s (exTs g t fr s)
  | .nil, fr, s => by simp only [exTs]; exact ps_nx
  | .cons t r, fr, s => by
    simp only [exTs]
    have h1 := ps_T hg t fr s
    cases e : exT g t fr s with
    | nx fr2 s2 => rw [e] at h1; exact PresS.trans h1 (ps_Ts hg r fr2 s2)
    | rt v s2 => rw [e] at h1; exact h1
    | ex x fr2 s2 => rw [e] at h1; exact h1
    | bad => trivial
end
/-! ### calls -/
/-- from the call's begin to its end -/
theorem pres_cut {s s2 : S} (h : Pres ⟨s.st, s.st.length⟩ s2) (hb : s.st.length ≤ s2.w) (d : List Ob) : Pres s ⟨s2.st.take s.st.length ++ d, s.w⟩ := by
  have hl : (s2.st.take s.st.length).length = s.st.length := by rw [List.length_take]; exact Nat.min_eq_left h.len
  refine ⟨Nat.le_refl _, by rw [List.length_append, hl]; exact Nat.le_add_right _ _, fun i h1 h2 => ?_⟩
  have e : (s2.st.take s.st.length ++ d)[i]? = s2.st[i]? := by
    rw [List.getElem?_append_left (by rw [hl]; exact h1), List.getElem?_take, if_pos h1]
  rcases h.old i h1 (Nat.lt_of_lt_of_le h1 hb) with q | ⟨o, q, q2⟩
  · exact .inl (e.trans q)
  · exact .inr ⟨o, e.trans q, q2⟩
theorem pres_keep {s s2 : S} (h : Pres ⟨s.st, s.st.length⟩ s2) (hb : s.st.length ≤ s2.w) : Pres s ⟨s2.st, s.w⟩ :=
  ⟨Nat.le_refl _, h.len, fun i h1 h2 => h.old i h1 (Nat.lt_of_lt_of_le h1 hb)⟩
theorem pres_min {s s2 : S} (h : Pres ⟨s.st, s.st.length⟩ s2) : Pres s ⟨s2.st, min s.w s2.w⟩ :=
  ⟨Nat.min_le_left _ _, h.len, fun i h1 h2 => h.old i h1 (Nat.lt_of_lt_of_le h2 (Nat.min_le_right _ _))⟩
theorem pm_leave {s s2 : S} {v : Val} (h : Pres ⟨s.st, s.st.length⟩ s2) : PresR s (leave s.st.length s.w v s2) := by
  have cut0 : s.st.length ≤ s2.w → Pres s ⟨s2.st.take s.st.length, s.w⟩ := fun hb => by
    have := pres_cut h hb []
    rwa [List.append_nil] at this
  unfold leave
  split
  · rename_i hb
    split
    · split
      · exact cut0 hb
      · split
        · split
          · exact pres_keep h hb
          · exact pres_cut h hb _
        · trivial
    · split
      · exact pres_keep h hb
      · exact cut0 hb
  · exact pres_min h
theorem pm_leaveX {s s2 : S} {x : Ex} (h : Pres ⟨s.st, s.st.length⟩ s2) : PresR s (leaveX s.st.length s.w x s2) := by
  unfold leaveX
  split
  · rename_i hb
    rw [Bool.and_eq_true] at hb
    have := pres_cut h (of_decide_eq_true hb.1) []
    rw [List.append_nil] at this
    exact this
  · exact pres_min h
theorem pm_call (pg : Pg) (wf : Nat) : ∀ d f vs, Pm (callN pg wf d f vs)
  | 0, f, vs => pm_bad
  | d + 1, f, vs => fun s => by
    unfold callN
    cases e : pg.fs f with
    | none => trivial
    | some df =>
      simp only
      split
      · have h1 := ps_Ts (g := ⟨callN pg wf d, pg, none, wf⟩) (fun f vs => pm_call pg wf d f vs) df.body (vs.map some ++ List.replicate (df.ns - df.np) none) ⟨s.st, s.st.length⟩
        cases e2 : exTs ⟨callN pg wf d, pg, none, wf⟩ df.body (vs.map some ++ List.replicate (df.ns - df.np) none) ⟨s.st, s.st.length⟩ with
        | nx fr s2 => rw [e2] at h1; exact pm_leave h1
        | rt v s2 => rw [e2] at h1; exact pm_leave h1
        | ex x fr s2 => rw [e2] at h1; exact pm_leaveX h1
        | bad => trivial
      · trivial
end PI
end

section
set_option Elab.async false
set_option linter.all false
set_option maxRecDepth 100000
/-! PyS14: what lies behind a call. -/
namespace PI
open PySem PySem.Spec PyProof.Rows L2 TL RZ
mutual
def lowV (n : Nat) : Val → Prop
  | .ref i => i < n
  | .tup xs => lowVs n xs
  | .lst xs => lowVs n xs
  | _ => True
def lowVs (n : Nat) : List Val → Prop
  | [] => True
  | x :: r => lowV n x ∧ lowVs n r
end
mutual
theorem lowV_no (n : Nat) : ∀ v : Val, hasRef v = false → lowV n v
  | .ref i, h => by simp [hasRef] at h
  | .tup xs, h => by simp only [lowV]; exact lowVs_no n xs (by simpa [hasRef] using h)
  | .lst xs, h => by simp only [lowV]; exact lowVs_no n xs (by simpa [hasRef] using h)
  | .non, _ => by simp [lowV]
  | .bl _, _ => by simp [lowV]
  | .int _, _ => by simp [lowV]
  | .str _, _ => by simp [lowV]
  | .dct _, _ => by simp [lowV]
theorem lowVs_no (n : Nat) : ∀ v : List Val, hasRefs v = false → lowVs n v
  | [], _ => by simp [lowVs]
  | x :: r, h => by
    simp only [hasRefs, Bool.or_eq_false_iff] at h
    simp only [lowVs]
    exact ⟨lowV_no n x h.1, lowVs_no n r h.2⟩
end
section
variable {K : PySem.W.Frag} {ca : Nat → Addr} {xn : Xn} {rho d : List Addr} {H H2 : Hp} {s s2 : S}
mutual
theorem VR.low : ∀ {v : Val} {u : V}, VR K ca rho H v u → lowV rho.length v
  | .ref i, _, h => by
    simp only [VR] at h
    obtain ⟨a, _, e⟩ := h
    simp only [lowV]
    exact (List.getElem?_eq_some_iff.mp e).1
  | .tup xs, _, h => by
    simp only [VR] at h
    obtain ⟨a, vs, _, _, r⟩ := h
    simp only [lowV]
    exact VRs.low r
  | .lst xs, _, h => by
    simp only [VR] at h
    obtain ⟨a, vs, _, _, r⟩ := h
    simp only [lowV]
    exact VRs.low r
  | .non, _, _ => by simp [lowV]
  | .bl _, _, _ => by simp [lowV]
  | .int _, _, _ => by simp [lowV]
  | .str _, _, _ => by simp [lowV]
  | .dct _, _, _ => by simp [lowV]
theorem VRs.low : ∀ {v : List Val} {u : List V}, VRs K ca rho H v u → lowVs rho.length v
  | [], _, _ => by simp [lowVs]
  | x :: r, _, h => by
    simp only [VRs] at h
    obtain ⟨v, q, _, h1, h2⟩ := h
    simp only [lowVs]
    exact ⟨VR.low h1, VRs.low h2⟩
end
mutual
theorem VR.cut : ∀ {v : Val} {u : V}, lowV rho.length v → VR K ca (rho ++ d) H v u → VR K ca rho H v u
  | .ref i, _, l, h => by
    simp only [VR] at h ⊢
    obtain ⟨a, e1, e⟩ := h
    simp only [lowV] at l
    exact ⟨a, e1, by rw [← e]; exact (List.getElem?_append_left l).symm⟩
  | .tup xs, _, l, h => by
    simp only [VR] at h ⊢
    obtain ⟨a, vs, h1, h2, r⟩ := h
    simp only [lowV] at l
    exact ⟨a, vs, h1, h2, VRs.cut0 l r⟩
  | .lst xs, _, l, h => by
    simp only [VR] at h ⊢
    obtain ⟨a, vs, h1, h2, r⟩ := h
    simp only [lowV] at l
    exact ⟨a, vs, h1, h2, VRs.cut0 l r⟩
  | .non, _, _, h => by simpa [VR] using h
  | .bl _, _, _, h => by simpa [VR] using h
  | .int _, _, _, h => by simpa [VR] using h
  | .str _, _, _, h => by simpa [VR] using h
  | .dct _, _, _, h => by simpa [VR] using h
theorem VRs.cut0 : ∀ {v : List Val} {u : List V}, lowVs rho.length v → VRs K ca (rho ++ d) H v u → VRs K ca rho H v u
  | [], _, _, h => by simpa [VRs] using h
  | x :: r, _, l, h => by
    simp only [VRs] at h ⊢
    obtain ⟨v, q, e, h1, h2⟩ := h
    simp only [lowVs] at l
    exact ⟨v, q, e, VR.cut l.1 h1, VRs.cut0 l.2 h2⟩
end
def lowO (n : Nat) : Ob → Prop
  | .lst xs => lowVs n xs
  | .ins _ fs => lowVs n (fs.map (·.2))
theorem lowO_no (n : Nat) {o : Ob} (h : obRef o = false) : lowO n o := by
  cases o with
  | lst xs => exact lowVs_no n _ h
  | ins c fs => exact lowVs_no n _ h
theorem FR.low : ∀ {fs : List (Str × Val)} {gs : List (Str × V)}, FR K ca rho H fs gs → lowVs rho.length (fs.map (·.2))
  | [], _, _ => by simp [lowVs]
  | (f, v) :: r, gs, h => by
    obtain ⟨u, q, _, h1, h2⟩ := h
    simp only [List.map_cons, lowVs]
    exact ⟨h1.low, FR.low h2⟩
theorem FR.cut : ∀ {fs : List (Str × Val)} {gs : List (Str × V)}, lowVs rho.length (fs.map (·.2)) → FR K ca (rho ++ d) H fs gs → FR K ca rho H fs gs
  | [], _, _, h => h
  | (f, v) :: r, gs, l, h => by
    obtain ⟨u, q, e, h1, h2⟩ := h
    simp only [List.map_cons, lowVs] at l
    exact ⟨u, q, e, h1.cut l.1, FR.cut l.2 h2⟩
theorem OR.low {o : Ob} {a : Addr} (h : OR K ca rho H o a) : lowO rho.length o := by
  cases o with
  | lst xs => obtain ⟨vs, _, r⟩ := h; exact r.low
  | ins c fs => obtain ⟨dx, gs, _, r, _⟩ := h; exact r.low
theorem OR.cut {o : Ob} {a : Addr} (l : lowO rho.length o) (h : OR K ca (rho ++ d) H o a) : OR K ca rho H o a := by
  cases o with
  | lst xs => obtain ⟨vs, e, r⟩ := h; exact ⟨vs, e, r.cut0 l⟩
  | ins c fs => obtain ⟨dx, gs, e, r, n⟩ := h; exact ⟨dx, gs, e, r.cut l, n⟩
/-- the old objects lean on old ones alone -/
theorem low_old (R : RelS K ca rho s H) (P : Pres ⟨s.st, s.st.length⟩ s2) (hb : s.st.length ≤ s2.w) {i : Nat} {o : Ob} (hi : i < s.st.length) (e : s2.st[i]? = some o) : lowO rho.length o := by
  rcases P.old i hi (Nat.lt_of_lt_of_le hi hb) with q | ⟨o2, q, q2⟩
  · have q : s2.st[i]? = s.st[i]? := q
    rw [e] at q
    have hr : i < rho.length := by rw [R.len]; exact hi
    exact (R.at_ i o rho[i] q.symm (List.getElem?_eq_getElem hr)).low
  · rw [e] at q
    cases q
    exact lowO_no _ q2
theorem RelS.cut {w0 : Nat} (R : RelS K ca rho s H) (R2 : RelS K ca (rho ++ d) s2 H2) (P : Pres ⟨s.st, s.st.length⟩ s2) (hb : s.st.length ≤ s2.w) : RelS K ca rho ⟨s2.st.take s.st.length, w0⟩ H2 := by
  refine ⟨?_, R.nd, fun i o a e1 e2 => ?_⟩
  · show rho.length = (s2.st.take s.st.length).length
    rw [List.length_take, R.len]
    exact (Nat.min_eq_left P.len).symm
  · have hi : i < s.st.length := by rw [← R.len]; exact (List.getElem?_eq_some_iff.mp e2).1
    have e1' : s2.st[i]? = some o := by
      have e1 : (s2.st.take s.st.length)[i]? = some o := e1
      rw [List.getElem?_take, if_pos hi] at e1
      exact e1
    have e2' : (rho ++ d)[i]? = some a := by rw [List.getElem?_append_left (by rw [R.len]; exact hi)]; exact e2
    exact (R2.at_ i o a e1' e2').cut (low_old R P hb hi e1')
theorem Ext.cut (x : Ext rho H (rho ++ d) H2) : Ext rho H rho H2 := ⟨⟨[], by simp⟩, fun a o e n => ⟨(x.fr a o e n).1, n⟩⟩
theorem RelS.w {w : Nat} (R : RelS K ca rho s H) : RelS K ca rho ⟨s.st, w⟩ H := ⟨R.len, R.nd, R.at_⟩
/-- behind a call that ended with a value -/
theorem leave_ok {w0 : Nat} {rho2 : List Addr} {v : Val} {u : V} {Q : VK} {E : Value → Option Addr → Hp → Prop} (R : RelS K ca rho s H) (x : Ext rho H rho2 H2) (R2 : RelS K ca rho2 s2 H2) (P : Pres ⟨s.st, s.st.length⟩ s2) (r : VR K ca rho2 H2 v u)
    (h : PV K ca xn (leave s.st.length w0 v s2) rho H Q E) : Q u H2 := by
  obtain ⟨d, rfl⟩ := x.pre
  have all : ∀ w, PV K ca xn (.ok v ⟨s2.st, w⟩) rho H Q E → Q u H2 := fun w h => h _ _ x R2.w u r
  unfold leave at h
  split at h
  · rename_i hb
    have cut : lowV rho.length v → PV K ca xn (.ok v ⟨s2.st.take s.st.length, w0⟩) rho H Q E → Q u H2 := fun l h => h _ _ x.cut (R.cut R2 P hb) u (r.cut l)
    split at h
    · rename_i i
      split at h
      · rename_i hi
        exact cut (by simp only [lowV]; rw [R.len]; exact hi) h
      · rename_i hi
        split at h
        · rename_i o eo
          split at h
          · exact all _ h
          · rename_i ho
            obtain ⟨a, rfl, e⟩ := r.ref_of
            have na : a ∉ rho := fun m => by
              obtain ⟨j, hj⟩ := List.getElem?_of_mem m
              have hjl : j < rho.length := (List.getElem?_eq_some_iff.mp hj).1
              have hj2 : (rho ++ d)[j]? = some a := by rw [List.getElem?_append_left hjl]; exact hj
              have e2 : j = i := by
                obtain ⟨q1, z1⟩ := List.getElem?_eq_some_iff.mp hj2
                obtain ⟨q2, z2⟩ := List.getElem?_eq_some_iff.mp e
                exact (List.getElem_inj R2.nd).mp (z1.trans z2.symm)
              rw [R.len] at hjl
              omega
            have hl : (s2.st.take s.st.length).length = s.st.length := by rw [List.length_take]; exact Nat.min_eq_left P.len
            have RC := R.cut (w0 := w0) R2 P hb
            have oo : OR K ca (rho ++ d) H2 o a := R2.at_ i o a eo e
            have R3 : RelS K ca (rho ++ [a]) ⟨s2.st.take s.st.length ++ [o], w0⟩ H2 := by
              refine ⟨by simp [hl, R.len], ?_, fun j ob b e1 e2 => ?_⟩
              · rw [List.nodup_append]
                refine ⟨R.nd, by simp, fun z h1 y h2 => ?_⟩
                rw [List.mem_singleton] at h2
                rw [h2]
                exact fun q => na (q ▸ h1)
              · by_cases hj : j < s.st.length
                · have e1' : (s2.st.take s.st.length)[j]? = some ob := by rw [← e1]; exact (List.getElem?_append_left (by rw [hl]; exact hj)).symm
                  have e2' : rho[j]? = some b := by rw [← e2]; exact (List.getElem?_append_left (by rw [R.len]; exact hj)).symm
                  exact (RC.at_ j ob b e1' e2').monoW ⟨[a], rfl⟩ (fun _ _ _ q => q) rfl
                · have hj2 : j = s.st.length := by
                    obtain ⟨q, _⟩ := List.getElem?_eq_some_iff.mp e1
                    simp [hl] at q
                    have := P.len
                    simp at this
                    omega
                  subst hj2
                  have e3 : ob = o := by
                    have z : (s2.st.take s.st.length ++ [o])[s.st.length]? = some o := by
                      rw [List.getElem?_append_right (by rw [hl]; exact Nat.le_refl _)]
                      simp [hl]
                    have e1 : (s2.st.take s.st.length ++ [o])[s.st.length]? = some ob := e1
                    rw [z] at e1
                    exact (Option.some.inj e1).symm
                  have e4 : b = a := by
                    rw [← R.len] at e2
                    simp at e2
                    exact e2.symm
                  subst e3 e4
                  exact (oo.cut (lowO_no _ (by simpa using ho))).monoW ⟨[b], rfl⟩ (fun _ _ _ q => q) rfl
            refine h (rho ++ [a]) H2 ⟨⟨[a], rfl⟩, fun y oy e1 n => ?_⟩ R3 _ ?_
            · obtain ⟨z1, z2⟩ := x.fr y oy e1 n
              refine ⟨z1, fun m => ?_⟩
              rcases List.mem_append.mp m with m | m
              · exact n m
              · rw [List.mem_singleton] at m
                rw [m] at z2
                exact z2 (List.mem_of_getElem? e)
            · simp only [VR]
              exact ⟨a, rfl, by rw [← R.len]; simp⟩
        · exact h.elim
    · split at h
      · exact all _ h
      · rename_i hv
        exact cut (lowV_no _ _ (by simpa using hv)) h
  · exact all _ h
/-- .. with an error -/
theorem leaveX_ok {w0 : Nat} {rho2 : List Addr} {y : Ex} {cls : Value} {dd : Option Addr} {Q : VK} {E : Value → Option Addr → Hp → Prop} (R : RelS K ca rho s H) (x : Ext rho H rho2 H2) (R2 : RelS K ca rho2 s2 H2) (P : Pres ⟨s.st, s.st.length⟩ s2) (r : XR K ca xn rho2 H2 y cls dd)
    (h : PV K ca xn (leaveX s.st.length w0 y s2) rho H Q E) : E cls dd H2 := by
  obtain ⟨d, rfl⟩ := x.pre
  unfold leaveX at h
  split at h
  · rename_i hb
    rw [Bool.and_eq_true] at hb
    refine h rho H2 cls dd x.cut (R.cut R2 P (of_decide_eq_true hb.1)) ?_
    obtain ⟨r1, r2⟩ := r
    refine ⟨r1, ?_⟩
    cases e : y.arg with
    | none => trivial
    | some v =>
      rw [e] at r2 hb
      obtain ⟨f, dx, u, h1, h2, h3, h4⟩ := r2
      exact ⟨f, dx, u, h1, h2, h3, h4.cut (lowV_no _ _ (by simpa using hb.2))⟩
  · exact h _ _ _ _ x R2.w r
end
/-! ### a def of ours -/
section
variable {P : Program} {w : World} {K : PySem.W.Frag} {mg : Str → Option Value} {base : Heap} {ca : Nat → Addr} {xn : Xn} {pg : Pg} {wf d : Nat}
theorem relF_start {rho : List Addr} {H : Hp} {N : List Str} {xs : List Val} {vs : List V} {n : Nat} (r : VRs K ca rho H xs vs) (hn : N.length - vs.length = n) : RelF K ca rho H (xs.map some ++ List.replicate n none) (L2.start N vs) := by
  unfold L2.start
  refine ⟨by simp [r.len, hn], fun i v e => ?_⟩
  by_cases hi : i < xs.length
  · rw [List.getElem?_append_left (by simpa using hi), List.getElem?_map] at e
    cases e2 : xs[i]? with
    | none => rw [e2] at e; cases e
    | some y =>
      rw [e2] at e
      cases e
      obtain ⟨u, h1, h2⟩ := r.get e2
      refine ⟨u, ?_, h2⟩
      rw [List.getElem?_append_left (by simp; rw [← r.len]; exact hi), List.getElem?_map, h1]
      rfl
  · rw [List.getElem?_append_right (by simpa using hi)] at e
    rw [List.getElem?_replicate] at e
    split at e <;> cases e
theorem fn_callN {kk f : Nat} {df : Df} {fa : Addr} {name qual : Str} {params : Arguments} {body : List Stmt} {scope : Scope} {dV kV doc pm cdv ct oc : Value} {an od : Option Addr} {osl : Array (Option Value)} {N ps : List Str}
    (hdf : pg.fs f = some df) (lk : K.lookup fa = some ⟨oc, od, .func (PySem.W.fnOf name qual params body scope dV kV doc pm an cdv ct), osl⟩) (hcd : PySem.W.codeIn K cdv qual = true) (SC : FnScope N ps scope) (hps : ps.length = df.np) (hN : N.length = df.ns)
    (hb : ∀ (A : Around) (outer : List Env) (sh : Shared) (H : Hp) (E : XK), Room kk (A.deeper (envOfC qual scope sh.heap.objs.size fa cdv)) → A.guards = some [] →
      PSs (cxOf (L2.CX P w) P w K mg base N qual scope fa cdv A outer sh H E) body (sTs K ca xn ⟨callN pg wf d, pg, none, wf⟩ (fun cls dd _ H => E cls dd H) df.body)) :
    FnG P w K mg base (kk + 1) fa (PySem.W.fnOf name qual params body scope dV kV doc pm an cdv ct) ps (SpI K ca xn (callN pg wf (d + 1) f) ps.length) := by
  refine fn_ofG (k := kk) lk hcd SC (fun vs H Q E h => h.1) fun A outer sh H vs Q E hr hg ⟨hl, rho, s, xs, R, r, q⟩ => ⟨_, hb A outer sh H E hr hg, ?_⟩
  have hx : xs.length = df.np := by rw [r.len, hl, hps]
  unfold callN at q
  simp only [hdf, hx, if_true] at q
  refine ⟨rho, _, ⟨s.st, s.st.length⟩, R.w, relF_start (n := df.ns - df.np) r (by rw [hN, ← r.len, hx]), ?_⟩
  have P1 := ps_Ts (g := ⟨callN pg wf d, pg, none, wf⟩) (fun f vs => pm_call pg wf d f vs) df.body (xs.map some ++ List.replicate (df.ns - df.np) none) ⟨s.st, s.st.length⟩
  show PostS K ca xn _ _ _ (exTs _ df.body _ _) rho H
  cases e : exTs ⟨callN pg wf d, pg, none, wf⟩ df.body (xs.map some ++ List.replicate (df.ns - df.np) none) ⟨s.st, s.st.length⟩ with
  | nx fr s2 =>
    rw [e] at q P1
    intro rho2 H2 sg x2 R2 F2 l2
    exact leave_ok R x2 R2 P1 (by simp [VR]) q
  | rt v s2 =>
    rw [e] at q P1
    intro rho2 H2 x2 R2 u hu
    exact leave_ok R x2 R2 P1 hu q
  | ex y fr s2 =>
    rw [e] at q P1
    intro rho2 H2 cls dd sg x2 R2 F2 l2 xr
    exact leaveX_ok R x2 R2 P1 xr q
  | bad => rw [e] at q; exact q.elim
end
end PI
end

section
set_option Elab.async false
set_option linter.all false
set_option maxRecDepth 100000
/-! PyD1: dicts that stay as they are written. -/
namespace PI
open PySem PySem.Spec PyProof.Rows L2 TL RZ
section
variable {X : Cx} {ca : Nat → Addr} {xn : Xn} {g : G} {W : WX} {e : Expr} {pos : Pos}
/-- a new dict, known from here on -/
theorem pe_lock {kvs : List (Key × V)} {t : TE} (h : PE X e t) : PE X e (fun sg H Q => t sg H fun v H1 => ∃ p, v = .ref p ∧ H1 p = some (.dK kvs) ∧ ∀ od, Q (.ref p) (upd H1 p (.frz od (.dK kvs)))) :=
  ⟨fun pins s sg H Q I q => thn (h.run pins s sg H _ I q) fun u s1 ⟨v, H1, I1, rv, p, ev, ep, k⟩ => by
    subst ev
    obtain ⟨od, I2⟩ := I1.lock ep trivial
    exact ⟨.ref p, _, I2, rv, k od⟩⟩
theorem dk_fin {K : PySem.W.Frag} {rho : List Addr} {H : Hp} {s : S} {Q : VK} {E : Value → Option Addr → Hp → Prop} {kvs : List (Tx × Int)} (R : RelS K ca rho s H) (q : PV K ca xn (ret (.dct kvs) s) rho H Q E) {p : Addr} (hp : H p = none) (od : Obj) :
    Q (.ref p) (upd H p (.frz od (.dK (kvs.map fun p => (.inr (toS p.1), .int p.2))))) := by
  refine q rho _ (nothing_upd R hp) (R.other hp) _ ?_
  simp only [VR]
  exact ⟨p, od, rfl, upd_same⟩
theorem sE_dk0 : PE X (.Dict [] [] pos) (tI X.K ca xn g W (.dk [])) :=
  PE.weak (pe_lock (kvs := []) pe_dnewK) fun sg H Q ⟨rho, fr, s, R, F, q⟩ p hp => by
    simp only [ev] at q
    refine ⟨p, rfl, upd_same, fun od => ?_⟩
    rw [upd_upd]
    exact dk_fin R q hp od
theorem sE_dk1 {z : Tx} {i : Int} {y : Str} {k1 k2 : Nat} {p1 p2 : Pos} (hz : toS z = y) : PE X (.Dict [some (.Constant (.str y) k1 p1)] [.Constant (.int i) k2 p2] pos) (tI X.K ca xn g W (.dk [(z, i)])) :=
  PE.weak (pe_lock (kvs := [(.inr y, .int i)]) (pe_disp (pps_cons (pe_str (X := X)) (pe_int (X := X)) pps_nil) rfl rfl (by simp) (by simp))) fun sg H Q ⟨rho, fr, s, R, F, q⟩ p hp => by
    simp only [ev] at q
    refine ⟨upd_same, [(.inr y, .int i)], rfl, by simp, p, rfl, ?_, fun od => ?_⟩
    · rw [upd_same]
      rfl
    · rw [upd_upd, upd_upd]
      have := dk_fin R q hp od
      simp only [List.map_cons, List.map_nil, hz] at this
      exact this
end
/-- is the display the one we say? -/
def dkB (kvs : List (Tx × Int)) (keys : List (Option Expr)) (values : List Expr) : Bool := match kvs, keys, values with
  | [], [], [] => true
  | [(z, i)], [some (.Constant (.str y) _ _)], [.Constant (.int j) _ _] => decide (toS z = y) && decide (i = j)
  | _, _, _ => false
theorem dkB_ok {X : Cx} {ca : Nat → Addr} {xn : Xn} {g : G} {W : WX} {pos : Pos} {kvs : List (Tx × Int)} {keys : List (Option Expr)} {values : List Expr} (h : dkB kvs keys values = true) : PE X (.Dict keys values pos) (tI X.K ca xn g W (.dk kvs)) := by
  unfold dkB at h
  split at h
  · exact sE_dk0
  · rw [Bool.and_eq_true] at h
    have e1 := of_decide_eq_true h.1
    have e2 := of_decide_eq_true h.2
    subst e2
    exact sE_dk1 e1
  · cases h
end PI
end

section
set_option Elab.async false
set_option linter.all false
set_option maxRecDepth 100000
/-! PyE0: errors raised and caught. -/
namespace PI
open PySem PySem.Spec PyProof.Rows L2 TL RZ
section
variable {K : PySem.W.Frag} {ca : Nat → Addr} {xn : Xn} {rho rho1 : List Addr} {H H1 : Hp} {s : S}
theorem XR.mono {x : Ex} {cls : Value} {d : Option Addr} (R : RelS K ca rho s H) (e : Ext rho H rho1 H1) (h : XR K ca xn rho H x cls d) : XR K ca xn rho1 H1 x cls d := by
  obtain ⟨h1, h2⟩ := h
  refine ⟨h1, ?_⟩
  cases q : x.arg with
  | none => trivial
  | some v =>
    rw [q] at h2
    obtain ⟨f, dd, u, a1, a2, a3, a4⟩ := h2
    exact ⟨f, dd, u, a1, a2, (e.fr dd _ a3 (R.not a3 (by intro _ z; cases z) (by intro _ _ _ z; cases z))).1, a4.mono R e⟩
theorem RelF.clr {fr : Fr} {sg : L2.St} (F : RelF K ca rho H fr sg) (i : Nat) (w : Option V) : RelF K ca rho H (fr.set i none) (sg.set i w) := by
  refine ⟨by simp [F.1], fun j v e => ?_⟩
  by_cases h : i = j
  · subst h
    by_cases hl : i < fr.length
    · rw [List.getElem?_set_self hl] at e; cases e
    · rw [List.getElem?_eq_none (by simpa using hl)] at e; cases e
  · rw [List.getElem?_set_ne h] at e
    obtain ⟨u, h1, h2⟩ := F.2 j v e
    exact ⟨u, by rw [List.getElem?_set_ne h]; exact h1, h2⟩
end
/-! ### the clause's one statement -/
/-- what the clause's statement wants: the error, where it stands -/
def tHd (K : PySem.W.Frag) (ca : Nat → Addr) (xn : Xn) (a : Addr) (cls : Value) (d : Option Addr) (nm : Option Nat) (m : Ex → Fr → S → RS) : TS := fun D sg H => ∃ (x : Ex) (rho : List Addr) (fr : Fr) (s : S), RelS K ca rho s H ∧ RelF K ca rho H fr sg ∧ XR K ca xn rho H x cls d ∧
  (∀ i, nm = some i → sg[i]? = some (some (.ref a))) ∧ PostS K ca xn W0 D sg.length (m x fr s) rho H
def tHe (K : PySem.W.Frag) (ca : Nat → Addr) (xn : Xn) (a : Addr) (cls : Value) (d : Option Addr) (nm : Option Nat) (m : Ex → Fr → M Val) : TE := fun sg H Q => ∃ (x : Ex) (rho : List Addr) (fr : Fr) (s : S), RelS K ca rho s H ∧ RelF K ca rho H fr sg ∧ XR K ca xn rho H x cls d ∧
  (∀ i, nm = some i → sg[i]? = some (some (.ref a))) ∧ PV K ca xn (m x fr s) rho H Q (fun _ _ _ => False)
section
variable {X : Cx} {ca : Nat → Addr} {xn : Xn} {g : G} {a : Addr} {cls : Value} {d : Option Addr} {nm : Option Nat} {e : Expr} {ie : E} {pos : Pos}
theorem hE_k {v : Val} (h : PE X e (tC (kv v))) (hk : kOk v = true) : PE X e (tHe X.K ca xn a cls d nm fun x fr => ev (g.mark x) fr (.k v)) :=
  PE.weak h fun sg H Q ⟨x, rho, fr, s, R, F, _, _, q⟩ => by
    simp only [ev] at q
    exact q.ret R _ (kv_ok hk)
theorem hS_ret (he : PE X e (tHe X.K ca xn a cls d nm fun x fr => ev (g.mark x) fr ie)) : PSs X [.Return (some e) pos] (tHd X.K ca xn a cls d nm fun x fr => exTs (g.mark x) (.cons (.ret ie) .nil) fr) :=
  PSs.weak (pss_cons (ps_ret he) pss_nil) fun D sg H ⟨x, rho, fr, s, R, F, hx, hn, q⟩ => by
    refine ⟨x, rho, fr, s, R, F, hx, hn, ?_⟩
    simp only [exTs, exT, wE] at q
    show Post X.K ca xn (ev (g.mark x) fr ie s) rho H _ _
    cases z : ev (g.mark x) fr ie s with
    | ok v s1 =>
      rw [z] at q
      intro rho1 H1 x1 R1 w hw
      exact q rho1 H1 x1 R1 w hw
    | ex y s1 =>
      rw [z] at q
      intro rho1 H1 c2 d2 x1 R1 xr
      exact q rho1 H1 c2 d2 sg x1 R1 (F.mono R x1) rfl xr
    | bad => rw [z] at q; exact q.elim
theorem hS_asg {j : Nat} {tg : Expr} (hg : PG X tg (gName j)) (hs : swapsWithSole [tg] e pos.line X.env = pure false) (hw : swappedStores [tg] e X.env = pure none) (h1 : (assignEach [tg] X.env).map (·.2) = [assign tg X.env])
    (he : PE X e (tHe X.K ca xn a cls d nm fun x fr => ev (g.mark x) fr ie)) : PSs X [.Assign [tg] e pos] (tHd X.K ca xn a cls d nm fun x fr => exTs (g.mark x) (.cons (.asg (.var j) ie) .nil) fr) :=
  PSs.weak (pss_cons (ps_asg he hg hs hw h1) pss_nil) fun D sg H ⟨x, rho, fr, s, R, F, hx, hn, q⟩ => by
    refine ⟨x, rho, fr, s, R, F, hx, hn, ?_⟩
    simp only [exTs, exT, wE] at q
    show Post X.K ca xn (ev (g.mark x) fr ie s) rho H _ _
    cases z : ev (g.mark x) fr ie s with
    | ok v s1 =>
      rw [z] at q
      intro rho1 H1 x1 R1 w hw
      exact q rho1 H1 _ x1 R1 ((F.mono R x1).set hw) (by simp)
    | ex y s1 =>
      rw [z] at q
      intro rho1 H1 c2 d2 x1 R1 xr
      exact q rho1 H1 c2 d2 sg x1 R1 (F.mono R x1) rfl xr
    | bad => rw [z] at q; exact q.elim
end
/-- error.f -/
theorem hE_xat {X : Cx} {ca : Nat → Addr} {xn : Xn} {g : G} {a : Addr} {oe : Obj} {cls : Value} {d : Option Addr} {i : Nat} {n f : Str} {p pos : Pos} {pn : List (Addr × Obj)}
    (T : ∀ c, (g.pg.cs c).bind (·.xf) = some f → XfC X.K (ca c) ∧ PySem.W.findIn X.K (.ref (ca c)) f = some none ∧ xn c = some f) (hz : Zc cls d oe) (hf : ∃ vs, oe.data = .fields vs)
    (hi : X.N[i]? = some n) (hv : Vis X.env.scope n) (hd : (n == ("__debug__" : Str)) = false) (hcd : (n == ("__classdict__" : Str)) = false) :
    PE (X.suite a ((a, oe) :: pn)) (.Attribute (.Name n p) f pos) (tHe X.K ca xn a cls d (some i) fun x fr => ev (g.mark x) fr (.xat f)) := by
  refine ⟨fun pins s sg H Q I ⟨x, rho, fr, st, R, F, hx, hn, q⟩ => ?_⟩
  have hs := hn i rfl
  simp only [ev, G.mark] at q
  obtain ⟨xc, xa⟩ := x
  cases xa with
  | none => exact q.elim
  | some v =>
    have q : Post X.K ca xn (chk (decide ((g.pg.cs xc).bind (·.xf) = some f)) (ret v) st) rho H (fun a rho' _ H' => ∀ w, VR X.K ca rho' H' a w → Q w H') (fun _ _ _ => False) := q
    obtain ⟨cc, q2⟩ := Post.chk q
    clear q
    obtain ⟨t1, t2, t3⟩ := T xc (of_decide_eq_true cc)
    obtain ⟨h1, f', dd, u, a1, a2, a3, a4⟩ := hx
    have ef : f' = f := by
      have : xn xc = some f' := a1
      rw [t3] at this
      exact (Option.some.inj this).symm
    subst ef
    have q3 := q2.ret R u a4
    refine (pe_xf (X := X) (n := f') t1 t2 hz hf (pe_var (X := X.suite a ((a, oe) :: pn)) (i := i) hi hv hd hcd)).run pins s sg H Q I ?_
    exact ⟨.ref a, hs, rfl, h1, dd, [(f', u)], u, a2, a3, by simp, q3⟩
/-! ### try: one clause -/
def clrS (nm : Option Nat) (sg : L2.St) : L2.St := match nm with
  | some i => sg.set i none
  | none => sg
theorem clrS_len {nm : Option Nat} {sg : L2.St} : (clrS nm sg).length = sg.length := by cases nm <;> simp [clrS]
section
variable {K : PySem.W.Frag} {ca : Nat → Addr} {xn : Xn} {rho : List Addr} {H : Hp} {s : S} {g : G} {W Wn : WX} {D D2 : Ends} {n c : Nat} {b su : Ts} {nm : Option Nat} {fr : Fr}
theorem RelF.clrN {fr : Fr} {sg : L2.St} (F : RelF K ca rho H fr sg) (nm : Option Nat) : RelF K ca rho H (PI.clr nm fr) (clrS nm sg) := by
  cases nm with
  | none => exact F
  | some i => exact F.clr i none
theorem post_tr (h : PostS K ca xn W D n (exT g (.tr b c nm su) fr s) rho H) (hn : ∀ sg H, D.nx (clrS nm sg) H → D2.nx sg H) (hr : ∀ v H, D.rt v H → D2.rt v H)
    (k : ∀ (x : Ex) (fr2 : Fr) (s2 : S) (rho' : List Addr) (H' : Hp) (cls : Value) (d : Option Addr) (sg : L2.St), RelS K ca rho' s2 H' → RelF K ca rho' H' fr2 sg → sg.length = n → XR K ca xn rho' H' x cls d →
      ((exIs g.pg x.cls c = some true ∧ PostS K ca xn W0 D2 n (exTs (g.mark x) su (clr nm fr2) s2) rho' H') ∨ (exIs g.pg x.cls c = some false ∧ W cls d sg H')) → Wn cls d sg H') : PostS K ca xn Wn D n (exTs g b fr s) rho H := by
  simp only [exT] at h
  cases e : exTs g b fr s with
  | nx fr2 s2 => rw [e] at h; exact h
  | rt v s2 => rw [e] at h; exact h
  | bad => rw [e] at h; exact h.elim
  | ex x fr2 s2 =>
    rw [e] at h
    simp only at h
    intro rho' H' cls d sg x1 R F l xr
    refine k x fr2 s2 rho' H' cls d sg R F l xr ?_
    cases q : exIs g.pg x.cls c with
    | none => simp only [q] at h; exact h.elim
    | some b2 =>
      cases b2 with
      | false => simp only [q] at h; exact .inr ⟨rfl, h rho' H' cls d sg x1 R F l xr⟩
      | true =>
        simp only [q] at h
        refine .inl ⟨rfl, ?_⟩
        have h := h.ext x1
        cases e2 : exTs (g.mark x) su (clr nm fr2) s2 with
        | nx fr3 s3 =>
          simp only [e2] at h
          intro rho2 H2 sg2 x2 R2 F2 l2
          exact hn _ _ (h rho2 H2 _ x2 R2 (F2.clrN nm) (by rw [clrS_len]; exact l2))
        | rt v s3 =>
          simp only [e2] at h
          intro rho2 H2 x2 R2 w hw
          exact hr _ _ (h rho2 H2 x2 R2 w hw)
        | ex y fr3 s3 => simp only [e2] at h; exact h.elim
        | bad => simp only [e2] at h; exact h.elim
end
section
variable {X : Cx} {ca : Nat → Addr} {xn : Xn} {g : G} {c i : Nat} {su : Ts} {x n : Str} {suite : List Stmt} {b₀ : Stmt} {np pos' : Pos} {Wf : Ends → WX} {hds : List ExceptHandler}
/-- clauses hds answer what Wf asks: told for the clause ahead of them -/
def TailOk (X : Cx) (Wf : Ends → WX) (hds : List ExceptHandler) : Prop := ∀ pins D, CL.Clauses X pins D (Wf D) hds
/-- what the body is asked, from what the whole is asked -/
def AskOk (X : Cx) (ca : Nat → Addr) (xn : Xn) (g : G) (Wf Wf2 : Ends → WX) (c : Nat) (nm : Option Nat) (su : Ts) : Prop :=
  ∀ (b : Ts) (D : Ends) (sg : L2.St) (H : Hp), sg.length = X.N.length → sT X.K ca xn g (Wf D) (.tr b c nm su) D sg H → sTs X.K ca xn g (Wf2 D) b D sg H
theorem cl_as (hs : X.stack = X.env :: X.outer) (hf : X.env.frame = some X.env.locals) (hN : X.N.Nodup) (hi : X.N[i]? = some n) (hln : X.env.kindOf n = some .local) (hc : Names X x (.ref (ca c)))
    (em : ∀ a b2, exIs g.pg a c = some b2 → PySem.W.exmOne X.K (.ref (ca a)) (.ref (ca c)) = some b2)
    (hsu : ∀ (a : Addr) (oe : Obj) (cls : Value) (d : Option Addr) (pn : List (Addr × Obj)), Zc cls d oe → (∃ vs, oe.data = .fields vs) → PSs (X.suite a ((a, oe) :: pn)) (b₀ :: suite) (tHd X.K ca xn a cls d (some i) fun x fr => exTs (g.mark x) su fr))
    (r : TailOk X Wf hds) : ∃ Wf2, TailOk X Wf2 (.ExceptHandler (some (.Name x np)) (some n) (b₀ :: suite) pos' :: hds) ∧ AskOk X ca xn g Wf Wf2 c (some i) su := by
  refine ⟨fun D => wAs X.K (.ref (ca c)) i (fun a cls d => tHd X.K ca xn a cls d (some i) fun x fr => exTs (g.mark x) su fr) (Wf D) D, fun pins D => CL.named hs hf hN hi hln hc hsu (r pins D), fun b D sg H len ⟨rho, fr, st, R, F, q⟩ => ⟨rho, fr, st, R, F, ?_⟩⟩
  have hl : i < sg.length := by rw [len]; exact (List.getElem?_eq_some_iff.mp hi).1
  refine post_tr (D2 := { nx := fun σ' H' => D.nx (σ'.set i none) H', rt := D.rt, bk := fun σ' H' => D.bk (σ'.set i none) H', ct := fun σ' H' => D.ct (σ'.set i none) H' }) q (fun _ _ h => h) (fun _ _ h => h) fun y fr2 s2 rho' H' cls d sg' R' F' l xr hk => ?_
  rcases hk with ⟨e, hp⟩ | ⟨e, hw⟩
  · refine ⟨true, by rw [xr.1]; exact em _ _ e, fun _ a ha => ⟨y, rho', clr (some i) fr2, s2, R', F'.clr i _, xr, fun j ej => ?_, ?_⟩, (fun z => nomatch z)⟩
    · cases ej
      exact List.getElem?_set_self (by rw [l]; exact hl)
    · rw [List.length_set, l]
      exact hp
  · exact ⟨false, by rw [xr.1]; exact em _ _ e, (fun z => nomatch z), fun _ => hw⟩
theorem cl_only (hs : X.stack = X.env :: X.outer) (hf : X.env.frame = some X.env.locals) (hc : Names X x (.ref (ca c)))
    (em : ∀ a b2, exIs g.pg a c = some b2 → PySem.W.exmOne X.K (.ref (ca a)) (.ref (ca c)) = some b2)
    (hsu : ∀ (a : Addr) (oe : Obj) (cls : Value) (d : Option Addr) (pn : List (Addr × Obj)), Zc cls d oe → (∃ vs, oe.data = .fields vs) → PSs (X.suite a ((a, oe) :: pn)) (b₀ :: suite) (tHd X.K ca xn a cls d none fun x fr => exTs (g.mark x) su fr))
    (r : TailOk X Wf hds) : ∃ Wf2, TailOk X Wf2 (.ExceptHandler (some (.Name x np)) none (b₀ :: suite) pos' :: hds) ∧ AskOk X ca xn g Wf Wf2 c none su := by
  refine ⟨fun D => wOnly X.K (.ref (ca c)) (fun a cls d => tHd X.K ca xn a cls d none fun x fr => exTs (g.mark x) su fr) (Wf D) D, fun pins D => CL.plain hs hf hc hsu (r pins D), fun b D sg H len ⟨rho, fr, st, R, F, q⟩ => ⟨rho, fr, st, R, F, ?_⟩⟩
  refine post_tr (D2 := D) q (fun _ _ h => h) (fun _ _ h => h) fun y fr2 s2 rho' H' cls d sg' R' F' l xr hk => ?_
  rcases hk with ⟨e, hp⟩ | ⟨e, hw⟩
  · exact ⟨true, by rw [xr.1]; exact em _ _ e, fun _ a ha => ⟨y, rho', fr2, s2, R', F', xr, fun j ej => (nomatch ej), by rw [l]; exact hp⟩, (fun z => nomatch z)⟩
  · exact ⟨false, by rw [xr.1]; exact em _ _ e, (fun z => nomatch z), fun _ => hw⟩
/-- a list of one statement -/
theorem sTs_one {K : PySem.W.Frag} {W : WX} {t : T} {D : Ends} {sg : L2.St} {H : Hp} (h : sTs K ca xn g W (.cons t .nil) D sg H) : sT K ca xn g W t D sg H := by
  obtain ⟨rho, fr, s, R, F, q⟩ := h
  refine ⟨rho, fr, s, R, F, ?_⟩
  have e2 : exTs g (.cons t .nil) fr s = exT g t fr s := by
    simp only [exTs]
    cases exT g t fr s <;> rfl
  show PostS K ca xn W D _ (exT g t fr s) rho H
  rw [← e2]
  exact q
/-- the whole statement: from what its clauses answer -/
theorem sX_tr {W : WX} {t : T} {h₀ : ExceptHandler} {body : List Stmt} {pos : Pos} {tb : WX → TS} {Wf : Ends → WX} (hs : X.stack = X.env :: X.outer) (hf : X.env.frame = some X.env.locals)
    (hb : ∀ (W : WX) (pn : List (Addr × Obj)) (xe : Value → Shared → Prop), Takes (X.tr pn xe) W → PassesOwn (model X.prog X.w) X.A X.env xe → PSs (X.tr pn xe) body (tb W)) (r : TailOk X Wf (h₀ :: hds))
    (ask : ∀ (D : Ends) (sg : L2.St) (H : Hp), sg.length = X.N.length → sT X.K ca xn g W t D sg H → tb (Wf D) D sg H) : PS X (.Try body (h₀ :: hds) [] [] pos) (sT X.K ca xn g W t) :=
  ⟨fun pins s sg H D I q => (CL.ps_try (tb := tb) (Wf := Wf) hs hf hb r).run pins s sg H D I (ask D sg H I.len q)⟩
end
/-! ### raise C(e), C's own __init__ setting one attribute -/
def spX (K : PySem.W.Frag) (f : Str) (C : Addr) : Sp := fun vs H Q _ => ∃ (a : Addr) (y : V), vs = [.ref a, y] ∧ OexC K C ∧ PySem.W.findIn K (.ref C) f = some none ∧ H a = some (exo a C none) ∧ ∀ dx, H dx = none → dx ≠ a → Q .non (upd (upd H dx (exd dx [(f, y)])) a (exo a C (some dx)))
theorem fn_init {CX : CXT} {P : Program} {w : World} {K : PySem.W.Frag} {mg : Str → Option Value} {base : Heap} {fa C : Addr} {name qual f n1 n2 : Str} {params : Arguments} {scope : Scope} {dV kV doc pm cdv ct oc : Value} {an od : Option Addr}
    {osl : Array (Option Value)} {p1 p2 p3 pos : Pos} (lk : K.lookup fa = some ⟨oc, od, .func (PySem.W.fnOf name qual params [.Assign [.Attribute (.Name n1 p1) f p2] (.Name n2 p3) pos] scope dV kV doc pm an cdv ct), osl⟩) (hcd : PySem.W.codeIn K cdv qual = true) (SC : FnScope [n1, n2] [n1, n2] scope)
    (v1 : scope.names.lookup n1 = some .local) (v2 : scope.names.lookup n2 = some .local) (d1 : (n1 == ("__debug__" : Str)) = false) (d2 : (n2 == ("__debug__" : Str)) = false) (c1 : (n1 == ("__classdict__" : Str)) = false) (c2 : (n2 == ("__classdict__" : Str)) = false) :
    FnOk P w K mg base CX 1 fa (PySem.W.fnOf name qual params [.Assign [.Attribute (.Name n1 p1) f p2] (.Name n2 p3) pos] scope dV kV doc pm an cdv ct) [n1, n2] (spX K f C) := by
  refine fn_of (k := 0) (N := [n1, n2]) lk hcd SC (fun vs H Q E ⟨a, y, e, _⟩ => by rw [e]; rfl) fun A outer s H vs Q E hr ⟨a, y, e, T, hno, ha, q⟩ => ?_
  subst e
  refine ⟨_, pss_cons (ps_ost (pe_var (i := 0) rfl (.inl v1) d1 c1) (pe_var (i := 1) rfl (.inl v2) d2 c2)) pss_nil, ?_⟩
  refine ⟨y, rfl, .ref a, rfl, a, C, rfl, T, hno, .inl ⟨ha, fun dx h1 h2 => q dx h1 h2⟩⟩
section
variable {X : Cx} {ca : Nat → Addr} {xn : Xn} {g : G} {W : WX} {c : Nat} {e : Expr} {ie : E} {x f : Str} {fI : Addr} {fd : FuncData} {ps : List Str} {p q pos : Pos}
theorem sX_raise (hc : X.calm = true) (tk : Takes X W) (T : OexC X.K (ca c)) (hno : PySem.W.findIn X.K (.ref (ca c)) f = some none) (hxn : xn c = some f) (iC : PySem.W.findIn X.K (.ref (ca c)) "__init__" = some (some (.ref fI))) (tf : PySem.W.typeIn X.K (.ref fI) = some (.type "function"))
    (F1 : FnOk X.prog X.w X.K X.mg X.base (L2.CX X.prog X.w) 1 fI fd ps (spX X.K f (ca c))) (hr : Room 2 X.A) (hb : Binds X.K fd ps []) (hg : Gl X x) (hm : X.mg x = some (.ref (ca c))) (hdb : (x == ("__debug__" : Str)) = false)
    (hie : ∀ z : E, z = ie → z ≠ .no) (he : PE X e (tI X.K ca xn g W ie)) (na : starEach [e] X.env = (false, eval e X.env) :: starEach [] X.env) : PS X (.Raise (some (.Call (.Name x p) [e] [] q)) none pos) (sT X.K ca xn g W (.raise c ie)) := by
  have hx : Passes (L2.CX X.prog X.w) X (fun _ _ _ => False) := fun _ _ _ _ _ _ _ h => by
    obtain ⟨_, _, _, _, _, _, _, _, _, _, _, _, z⟩ := h
    exact z.elim
  refine PS.weak (ps_raise (W := W) hc tk (pmk_oex (pos := q) (p := p) T iC tf F1 hr hb .nil hx hg hm (pa_cons he pa_nil na) hdb na rfl)) fun D sg H ⟨rho, fr, s, R, F, h⟩ => ?_
  have ne : ie ≠ .no := hie ie rfl
  have h' : PostS X.K ca xn W D sg.length (wE (ev g fr ie) fr (fun v s => .ex ⟨c, some v⟩ fr s) s) rho H := by
    simp only [exT] at h
    cases ie <;> first | exact absurd rfl ne | exact h
  refine tS_bnd (m := fun fr => ev g fr ie) (rel := fun rho H a b => VR X.K ca rho H a b) R F h' fun v u rho1 s1 H1 x1 R1 F1 r1 h => ?_
  refine ⟨by simp, fun a ha => ⟨a, u, rfl, T, hno, upd_same, fun dx h1 h2 => ⟨rfl, dx, [(f, u)], upd_same, ?_, ?_, ?_⟩⟩⟩
  · rw [upd_ne h2, upd_same]
  · rw [upd_ne h2] at h1
    exact h1
  · have hd : H1 dx = none := by rw [upd_ne h2] at h1; exact h1
    have eH : upd (del (upd (upd (upd H1 a (exo a (ca c) none)) dx (exd dx [(f, u)])) a (exo a (ca c) (some dx))) a) dx (.xd [(f, u)]) = upd H1 dx (.xd [(f, u)]) := by
      funext z
      by_cases hz : z = dx
      · rw [hz, upd_same, upd_same]
      · rw [upd_ne hz, upd_ne hz]
        by_cases ha2 : z = a
        · rw [ha2, del_same, ha]
        · rw [del_ne ha2, upd_ne ha2, upd_ne hz, upd_ne ha2]
    rw [eH]
    have x2 : Ext rho1 H1 rho1 (upd H1 dx (.xd [(f, u)])) := nothing_upd R1 hd
    exact h rho1 _ _ _ sg x2 (R1.other hd) (F1.mono R1 x2) rfl ⟨rfl, f, dx, u, hxn, rfl, upd_same, r1.mono R1 x2⟩
end
/-! ### raise C(), C without an own __init__ -/
/-- what the program's words say of such a class -/
structure Xc0 (K : PySem.W.Frag) (C : Addr) : Prop where
  ex : PySem.W.excIn K C PySem.HandSPX.veTail "ValueError.__new__" = true
  keep : PySem.W.keepIn K (.ref C) = true
  sb : PySem.W.subIn K (.ref C) (.type "BaseException") = some true
  ty : PySem.W.typeIn K (.ref C) = some (.type "type")
theorem made0 {X : Cx} {C : Addr} {x : Str} {p q : Pos} (T : Xc0 X.K C) (hm : X.mg x = some (.ref C)) (hg : Gl X x) (hdb : (x == ("__debug__" : Str)) = false) : PMk X (.Call (.Name x p) [] [] q) (fun _ H Q => Q (.ref C) none H) := by
  intro pins st sg H Q I want
  refine wpAny_Call_Name_kw (ld_glob I hg hm (PySem.W.callWith_K0 I.kIn T.keep ?_) hdb)
  obtain ⟨_, _, _, _, _, _, _, _, _, _, _, _, _, _, _, _, _, at_, ns, none_, tail⟩ := exc_obj I.kIn T.ex
  exact wpAny_call_exc_subT F.excBase_ValueError tail at_ ns none_ (fun _ _ new => mk_of I new (raises_own T.sb T.ty) want (I.hok.gone new.new)) (by simp)
theorem sX_raise0 {X : Cx} {ca : Nat → Addr} {xn : Xn} {g : G} {W : WX} {c : Nat} {x : Str} {p q pos : Pos} (hc : X.calm = true) (tk : Takes X W) (T : Xc0 X.K (ca c)) (hg : Gl X x) (hm : X.mg x = some (.ref (ca c))) (hdb : (x == ("__debug__" : Str)) = false) :
    PS X (.Raise (some (.Call (.Name x p) [] [] q)) none pos) (sT X.K ca xn g W (.raise c .no)) := by
  refine PS.weak (ps_raise (W := W) hc tk (made0 T hm hg hdb)) fun D sg H ⟨rho, fr, s, R, F, h⟩ => ?_
  simp only [exT] at h
  exact h rho H (.ref (ca c)) none sg Ext.rfl' R F rfl ⟨rfl, trivial⟩
/-! ### lists in the clause -/
def tHes (K : PySem.W.Frag) (ca : Nat → Addr) (xn : Xn) (a : Addr) (cls : Value) (d : Option Addr) (nm : Option Nat) (m : Ex → Fr → M (List Val)) : TA := fun sg H Q => ∃ (x : Ex) (rho : List Addr) (fr : Fr) (s : S), RelS K ca rho s H ∧ RelF K ca rho H fr sg ∧ XR K ca xn rho H x cls d ∧
  (∀ i, nm = some i → sg[i]? = some (some (.ref a))) ∧ Post K ca xn (m x fr s) rho H (fun vs rho' _ H' => ∀ us, VRs K ca rho' H' vs us → Q us H') (fun _ _ _ => False)
section
variable {X : Cx} {ca : Nat → Addr} {xn : Xn} {g : G} {a : Addr} {cls : Value} {d : Option Addr} {nm : Option Nat} {e : Expr} {es : List Expr} {ie : E} {ies : Es} {pos : Pos}
theorem PA.weak' {t t' : TA} (h : PA X es t) (k : ∀ sg H Q, t' sg H Q → t sg H Q) : PA X es t' := ⟨fun p pins s sg H Q I q => h.run p pins s sg H Q I (k sg H Q q)⟩
theorem hEs_nil : PA X [] (tHes X.K ca xn a cls d nm fun x fr => evs (g.mark x) fr .nil) :=
  PA.weak' pa_nil fun sg H Q ⟨x, rho, fr, s, R, F, _, _, q⟩ => by
    simp only [evs] at q
    exact q.ret R [] (by simp [VRs])
theorem hEs_cons (he : PE X e (tHe X.K ca xn a cls d nm fun x fr => ev (g.mark x) fr ie)) (hs : PA X es (tHes X.K ca xn a cls d nm fun x fr => evs (g.mark x) fr ies)) (na : starEach (e :: es) X.env = (false, eval e X.env) :: starEach es X.env) :
    PA X (e :: es) (tHes X.K ca xn a cls d nm fun x fr => evs (g.mark x) fr (.cons ie ies)) :=
  PA.weak' (pa_cons he hs na) fun sg H Q ⟨x, rho, fr, s, R, F, hx, hn, q⟩ => by
    simp only [evs] at q
    refine ⟨x, rho, fr, s, R, F, hx, hn, q.bnd.imp fun v rho1 s1 H1 x1 R1 q w hw => ?_⟩
    refine ⟨x, rho1, fr, s1, R1, F.mono R x1, hx.mono R x1, hn, q.bnd.imp fun vs rho2 s2 H2 x2 R2 q us hu => ?_⟩
    exact q.ret R2 (w :: us) (VRs.cons_iff.mpr ⟨w, us, rfl, hw.mono R1 x2, hu⟩)
theorem hE_lst (h : PA X es (tHes X.K ca xn a cls d nm fun x fr => evs (g.mark x) fr ies)) : PE X (.List es pos) (tHe X.K ca xn a cls d nm fun x fr => ev (g.mark x) fr (.lst ies)) :=
  PE.weak (pe_lst h) fun sg H Q ⟨x, rho, fr, s, R, F, hx, hn, q⟩ => by
    simp only [ev] at q
    refine ⟨x, rho, fr, s, R, F, hx, hn, q.bnd.imp fun vs rho1 s1 H1 x1 R1 q us hu => ?_⟩
    obtain ⟨cc, q⟩ := Post.chk q
    exact ⟨by rw [← hu.len, ← lim_eq]; exact of_decide_eq_true cc, fun p hp => PV.lst R1 hu q hp⟩
theorem hE_tup {n : Nat} (h : PA X es (tHes X.K ca xn a cls d nm fun x fr => evs (g.mark x) fr ies)) : PE X (.Tuple es n pos) (tHe X.K ca xn a cls d nm fun x fr => ev (g.mark x) fr (.tup ies)) :=
  PE.weak (pe_tupF h) fun sg H Q ⟨x, rho, fr, s, R, F, hx, hn, q⟩ => by
    simp only [ev] at q
    refine ⟨x, rho, fr, s, R, F, hx, hn, q.bnd.imp fun vs rho1 s1 H1 x1 R1 q us hu => ?_⟩
    obtain ⟨cc, q⟩ := Post.chk q
    exact ⟨by rw [← hu.len, ← lim_eq]; exact of_decide_eq_true cc, fun p o ho hp => PV.tup R1 hu q ho hp⟩
end
end PI
end

section
set_option Elab.async false
set_option linter.all false
set_option maxRecDepth 100000
/-! PyE1: a clause that asks whether the error is one of two classes, then takes what it holds. -/
namespace PI
open PySem PySem.Spec PyProof.Rows L2 TL RZ
/-- the error is of the class: whatever else it holds -/
theorem yes_nested {K : PySem.W.Frag} {a : Addr} {o : Obj} {c : Value} (e : PySem.W.kitOne K o.cls c = some true) : Answers (fun s => K.In s.heap ∧ s.heap.get? a = some o) (.ref a) c true := by
  rintro dep tk prog w A R ⟨hp, gg, dr, n, os⟩ ⟨⟨hk, ha⟩, hr⟩
  have ty : PySem.W.Looks (model prog w) hp (typeOf (.ref a)) o.cls := (PySem.W.Looks.ld ha).andThen .now
  unfold Builtin.«isinstance.nested»
  refine wpAny_bind (ty.at ?_)
  unfold PySem.W.kitOne at e
  by_cases same : (o.cls == c) = true
  · rw [if_pos same]
    first
      | exact wpAny_bind (wpAny_rule (hr n))
      | exact wpAny_bind (wpAny_rule (wpAny_pure (hr n)))
  · rw [if_neg same] at e ⊢
    obtain ⟨t1, t2, t3⟩ := PySem.W.kit_cls (M := model prog w) hk e
    have isOne : PySem.W.Looks (model prog w) hp (isInstance (.ref a) c) true := ty.andThen t3
    refine wpAny_bind (t1.at ?_)
    rw [if_pos (by decide)]
    k_delta "plainIsInstance"
    refine wpAny_bind (wpAny_bind (t2.at ?_))
    rw [Bool.not_true, if_neg Bool.false_ne_true]
    refine wpAny_bind (isOne.at ?_)
    first
      | exact wpAny_pure (wpAny_pure (hr n))
      | (rw [if_pos rfl]; first | exact wpAny_pure (wpAny_pure (hr n)) | exact wpAny_pure (hr n) | exact wpAny_bind (wpAny_pure (wpAny_pure (hr n))))
/-- isinstance(e, c) that says True -/
def rYes (K : PySem.W.Frag) (cls : Value) (a : Addr) : List V → Hp → VK → Prop := fun xs H Q => ∃ (c : V) (cv : Value), xs = [.ref a, c] ∧ (∀ u, RelV c u → u = cv) ∧ PySem.W.kitOne K cls cv = some true ∧ Q (.bl true) H
theorem call_yes {X : Cx} {a : Addr} {cls : Value} {d : Option Addr} {oe : Obj} {pn : List (Addr × Obj)} (hz : Zc cls d oe) : CallR (X.suite a ((a, oe) :: pn)) (.builtin "isinstance") (rYes X.K cls a) := by
  intro pins sh sg H xs us Q I r h
  obtain ⟨c, cv, rfl, hc, e, q⟩ := h
  cases r with
  | cons r1 rr =>
    cases rr with
    | cons r2 rr =>
      cases rr
      cases r1
      have := hc _ r2
      subst this
      obtain ⟨there, _⟩ := I.pin (a, oe) (List.mem_append.mpr (.inl List.mem_cons_self))
      rw [← hz.1] at e
      exact call_isinstance (S := fun _ R s => (X.K.In s.heap ∧ s.heap.get? a = some oe) ∧ ∀ tk, R (.ok (.ret (.bool true))) { s with toks := tk }) (fun prog w A R s hs => isinstance_outer (yes_nested e 0 _ prog w A R s hs) (fun z => nomatch z)) ⟨⟨I.kIn, there⟩, fun tk => ⟨.bl true, H, I.kept (t' := tk) fun _ _ z => z, rfl, q⟩⟩
/-- what the question wants -/
def tAsk2 (K : PySem.W.Frag) (cls : Value) (a : Addr) (i : Nat) (v1 v2 : Value) : TE := fun sg H Q => sg[i]? = some (some (.ref a)) ∧ PySem.W.kitOne K cls v1 = some true ∧ PySem.W.kitOne K cls v2 = some true ∧ Q (.bl true) H
section
variable {X : Cx} {ca : Nat → Addr} {xn : Xn} {g : G} {a : Addr} {cls : Value} {d : Option Addr} {oe : Obj} {pn : List (Addr × Obj)}
theorem pe_yes {i : Nat} {n c1 c2 : Str} {w1 w2 : V} {v1 v2 : Value} {p1 p2 q1 q2 r1 r2 s1 s2 pos : Pos} (hz : Zc cls d oe) (hi : X.N[i]? = some n) (hv : Vis X.env.scope n) (hd : (n == ("__debug__" : Str)) = false) (hcd : (n == ("__classdict__" : Str)) = false)
    (hg : Gl X "isinstance") (hm : X.mg "isinstance" = none) (h1 : PE (X.suite a ((a, oe) :: pn)) (.Name c1 r1) (tC w1)) (h2 : PE (X.suite a ((a, oe) :: pn)) (.Name c2 r2) (tC w2)) (e1 : ∀ u, RelV w1 u → u = v1) (e2 : ∀ u, RelV w2 u → u = v2) :
    PE (X.suite a ((a, oe) :: pn)) (.BoolOp .And [.Call (.Name "isinstance" p1) [.Name n q1, .Name c1 r1] [] s1, .Call (.Name "isinstance" p2) [.Name n q2, .Name c2 r2] [] s2] pos) (tAsk2 X.K cls a i v1 v2) := by
  have one : ∀ {p q r s : Pos} {c : Str} {w : V}, PE (X.suite a ((a, oe) :: pn)) (.Name c r) (tC w) → PE (X.suite a ((a, oe) :: pn)) (.Call (.Name "isinstance" p) [.Name n q, .Name c r] [] s) (tCB (rYes X.K cls a) (tCons (tVar i) (tCons (tC w) tNil))) := fun h =>
    pe_callB (call_yes (X := X) (a := a) (pn := pn) hz) hg hm rfl (pa_cons (pe_var (X := X.suite a ((a, oe) :: pn)) hi hv hd hcd) (pa_cons h pa_nil (star_cons rfl _ _)) (star_cons rfl _ _)) (by decide) (by decide) (star_cons rfl _ _) (star_any _ _ rfl)
  refine PE.weak (pe_and (one h1) (pe_one (one h2))) fun sg H Q ⟨hs, k1, k2, q⟩ => ?_
  exact ⟨_, hs, w1, v1, rfl, e1, k1, true, rfl, by rw [if_pos rfl]; exact ⟨_, hs, w2, v2, rfl, e2, k2, q⟩⟩
theorem hS_yes {i j j2 : Nat} {n y y2 c1 c2 f : Str} {w1 w2 : V} {v1 v2 : Value} {z : Expr} {tz : TE} {p1 p2 q1 q2 r1 r2 s1 s2 pos py py2 pos1 pos2 pn1 pn2 pa pi : Pos} (hz : Zc cls d oe) (hf : ∃ vs, oe.data = .fields vs)
    (T : ∀ c, (g.pg.cs c).bind (·.xf) = some f → XfC X.K (ca c) ∧ PySem.W.findIn X.K (.ref (ca c)) f = some none ∧ xn c = some f)
    (kit : ∀ c, (g.pg.cs c).bind (·.xf) = some f → PySem.W.kitOne X.K (.ref (ca c)) v1 = some true ∧ PySem.W.kitOne X.K (.ref (ca c)) v2 = some true)
    (hN : X.N.Nodup) (hi : X.N[i]? = some n) (hv : Vis X.env.scope n) (hd : (n == ("__debug__" : Str)) = false) (hcd : (n == ("__classdict__" : Str)) = false) (hij : i ≠ j)
    (hj : X.N[j]? = some y) (hjl : X.env.scope.names.lookup y = some .local) (hyd : (y == ("__debug__" : Str)) = false) (hyc : (y == ("__classdict__" : Str)) = false) (hj2 : X.N[j2]? = some y2) (hj2l : X.env.scope.names.lookup y2 = some .local)
    (hg : Gl X "isinstance") (hm : X.mg "isinstance" = none) (h1 : PE (X.suite a ((a, oe) :: pn)) (.Name c1 r1) (tC w1)) (h2 : PE (X.suite a ((a, oe) :: pn)) (.Name c2 r2) (tC w2)) (e1 : ∀ u, RelV w1 u → u = v1) (e2 : ∀ u, RelV w2 u → u = v2) (hzz : PE (X.suite a ((a, oe) :: pn)) z tz) :
    PSs (X.suite a ((a, oe) :: pn)) [.Assign [.Name y py] (.BoolOp .And [.Call (.Name "isinstance" p1) [.Name n q1, .Name c1 r1] [] s1, .Call (.Name "isinstance" p2) [.Name n q2, .Name c2 r2] [] s2] pos) pos1, .Assign [.Name y2 py2] (.IfExp (.Name y pn1) (.Attribute (.Name n pn2) f pa) z pi) pos2]
      (tHd X.K ca xn a cls d (some i) fun x fr => exTs (g.mark x) (.cons (.asg (.var j) (.k (.bl true))) (.cons (.asg (.var j2) (.xat f)) .nil)) fr) := by
  have hs1 : swapsWithSole [.Name y py] (.BoolOp .And [.Call (.Name "isinstance" p1) [.Name n q1, .Name c1 r1] [] s1, .Call (.Name "isinstance" p2) [.Name n q2, .Name c2 r2] [] s2] pos) pos1.line (X.suite a ((a, oe) :: pn)).env = pure false := rfl
  have st1 := ps_asg (pos := pos1) (pe_yes (X := X) (pn := pn) (p1 := p1) (p2 := p2) (q1 := q1) (q2 := q2) (s1 := s1) (s2 := s2) (pos := pos) hz hi hv hd hcd hg hm h1 h2 e1 e2) (pg_name (X := X.suite a ((a, oe) :: pn)) (pos := py) hN hj (.inl hjl) (.inr hjl)) hs1 rfl rfl
  have ex : PE (X.suite a ((a, oe) :: pn)) (.Attribute (.Name n pn2) f pa) (tHe X.K ca xn a cls d (some i) fun x fr => ev (g.mark x) fr (.xat f)) := hE_xat (X := X) (pn := pn) T hz hf hi hv hd hcd
  have st2 := ps_asg (pos := pos2) (pe_ifExp (pos := pi) (pt_val (pe_var (X := X.suite a ((a, oe) :: pn)) (pos := pn1) hj (.inl hjl) hyd hyc)) ex hzz) (pg_name (X := X.suite a ((a, oe) :: pn)) (pos := py2) hN hj2 (.inl hj2l) (.inr hj2l)) rfl rfl rfl
  refine ⟨fun pins sh sg H D I ⟨x, rho, fr, s, R, F, hx, hn, q⟩ => (pss_cons st1 (pss_cons st2 pss_nil)).run pins sh sg H D I ?_⟩
  have hs := hn i rfl
  have q : PostS X.K ca xn W0 D sg.length (exTs (g.mark x) (.cons (.asg (.var j2) (.xat f)) .nil) (fr.set j (some (.bl true))) s) rho H := q
  have known : ∃ xc, (g.pg.cs xc).bind (·.xf) = some f ∧ cls = .ref (ca xc) := by
    obtain ⟨xc, xa⟩ := x
    refine ⟨xc, ?_, hx.1⟩
    simp only [exTs, exT, wE] at q
    cases xa with
    | none =>
      have e0 : ev (g.mark ⟨xc, none⟩) (fr.set j (some (.bl true))) (.xat f) s = .bad := by
        simp only [ev, G.mark]
        rfl
      have q : False := by
        rw [e0] at q
        exact q
      exact q.elim
    | some v =>
      by_cases cc : (g.pg.cs xc).bind (·.xf) = some f
      · exact cc
      · have e0 : ev (g.mark ⟨xc, some v⟩) (fr.set j (some (.bl true))) (.xat f) s = .bad := by
          simp only [ev, G.mark]
          show chk (decide ((g.pg.cs xc).bind (·.xf) = some f)) (ret v) s = .bad
          rw [decide_eq_false cc]
          rfl
        have q : False := by
          rw [e0] at q
          exact q
        exact q.elim
  obtain ⟨xc, hxc, hcl⟩ := known
  obtain ⟨k1, k2⟩ := kit xc hxc
  refine ⟨hs, by rw [hcl]; exact k1, by rw [hcl]; exact k2, ?_⟩
  have lj : j < sg.length := by
    rw [I.len]
    exact (List.getElem?_eq_some_iff.mp hj).1
  refine ⟨.bl true, List.getElem?_set_self lj, true, rfl, ?_⟩
  show (if true = true then _ else _)
  rw [if_pos rfl]
  have F2 : RelF X.K ca rho H (fr.set j (some (.bl true))) (sg.set j (some (.bl true))) := F.set (by simp [VR])
  refine ⟨x, rho, fr.set j (some (.bl true)), s, R, F2, hx, fun k hk => ?_, ?_⟩
  · cases hk
    rw [List.getElem?_set_ne (Ne.symm hij)]
    exact hs
  · simp only [exTs, exT, wE] at q
    show Post X.K ca xn (ev (g.mark x) (fr.set j (some (.bl true))) (.xat f) s) rho H _ _
    cases zz : ev (g.mark x) (fr.set j (some (.bl true))) (.xat f) s with
    | ok v s1 =>
      rw [zz] at q
      intro rho1 H1 x1 R1 w hw
      exact q rho1 H1 _ x1 R1 ((F2.mono R x1).set hw) (by simp)
    | ex y s1 =>
      rw [zz] at q
      intro rho1 H1 c2 d2 x1 R1 xr
      exact q rho1 H1 c2 d2 _ x1 R1 (F2.mono R x1) (by simp) xr
    | bad => rw [zz] at q; exact q.elim
end
end PI
end

section
set_option Elab.async false
set_option linter.all false
set_option maxRecDepth 100000
/-! PyM0: is an expression of the program the one we say? -/
namespace PI
open PySem PySem.Spec PyProof.Rows L2 TL RZ
/-- where an expression stands: the names' places, the scope, the block's own scope -/
structure C where
  N : List Str
  sc : Scope
  ow : Scope
def opB : Op → Operator → Bool
  | .add, .Add => true | .sub, .Sub => true | .mul, .Mult => true | .mod, .Mod => true | .fdiv, .FloorDiv => true | .pow, .Pow => true | _, _ => false
theorem opB_ok {o : Op} {p : Operator} (h : opB o p = true) : p = oper o := by cases o <;> cases p <;> first | rfl | cases h
def cpB (o : Cp) (p : CmpOp) : Bool := decide (p = cper o)
def isNB : Cp → Bool
  | .isN => true | .notN => true | _ => false
theorem isNB_ok {o : Cp} (h : isNB o = false) : ¬ (o = .isN ∨ o = .notN) := by cases o <;> first | cases h; done | simp
def isNon : E → Bool
  | .k .non => true
  | _ => false
theorem isNon_ok {e : E} (h : isNon e = true) : e = .k .non := by
  unfold isNon at h
  split at h
  · rfl
  · cases h
def isNo : E → Bool
  | .no => true
  | _ => false
theorem isNo_ok {e : E} (h : isNo e = true) : e = .no := by cases e <;> first | rfl | cases h
def isIte : E → Bool
  | .ite _ _ _ => true
  | _ => false
def gl (c : C) (n : Str) : Bool := decide (c.sc.names.lookup n = some .globalImplicit) && !(n == ("__debug__" : Str))
def visB (sc : Scope) (n : Str) : Bool := decide (sc.names.lookup n = some .local) || decide (sc.names.lookup n = some .cell) || decide (sc.names.lookup n = some .free)
def varB (c : C) (i : Nat) (n : Str) : Bool := decide (c.N[i]? = some n) && visB c.sc n && !(n == ("__debug__" : Str)) && !(n == ("__classdict__" : Str))
def kEq : Val → Val → Bool
  | .non, .non => true
  | .bl a, .bl b => a == b
  | .int a, .int b => a == b
  | .str a, .str b => a == b
  | _, _ => false
theorem kEq_ok {a b : Val} (h : kEq a b = true) : a = b := by
  cases a <;> cases b <;> simp_all [kEq]
def kB (gi : GI) (c : C) (v : Val) (x : Expr) : Bool := match v, x with
  | .int i, .Constant (.int j) _ _ => decide (i = j)
  | .bl b, .Constant (.bool d) _ _ => b == d
  | .non, .Constant .none _ _ => true
  | .str z, .Constant (.str y) _ _ => decide (toS z = y) && okT z
  | v, .Name n _ => gl c n && (match gi.gk.lookup n with
    | some w => kEq v w
    | none => false)
  | _, _ => false
def noSlice : Expr → Bool
  | .Slice _ _ _ _ => false
  | _ => true
theorem ix_ok {b : Expr} (h : noSlice b = true) : PlainIx b := by
  intro o i
  cases b <;> first | rfl | cases h
/-- no call of super -/
def baseB : Expr → Bool
  | .Call (.Name _ _) [] [] _ => false
  | _ => true
theorem baseB_ok {o : Expr} (h : baseB o = true) (m : Str) (env : Env) : attributeBase o m env (eval o env) = eval o env := by
  cases o with
  | Call f as ks p =>
    cases f with
    | Name n q =>
      cases as with
      | nil =>
        cases ks with
        | nil => cases h
        | cons _ _ => rfl
      | cons _ _ => rfl
    | _ => rfl
  | _ => rfl
def notSet : Expr → Bool
  | .Set _ _ _ => false
  | _ => true
theorem set_ok {e : Expr} (h : notSet e = true) (env : Env) : ∀ x, foldedSetIterable e env x = pure x := by
  intro x
  cases e <;> first | rfl | cases h
def notComp : Expr → Bool
  | .ListComp _ _ _ _ => false | .SetComp _ _ _ _ => false | .DictComp _ _ _ _ _ => false | _ => true
theorem swaps_ok {e : Expr} (h : notComp e = true) (t : Option Expr) (l : Nat) (env : Env) : swapsWith e t l env = pure false := by
  cases e <;> first | rfl | cases h
/-- a target's name -/
def tgN (c : C) (i : Nat) : Expr → Bool
  | .Name n _ => decide (c.N[i]? = some n) && (decide (c.sc.names.lookup n = some .local) || (decide (c.sc.names.lookup n = some .cell) && decide (c.ow.names.lookup n = some .cell)))
  | _ => false
def tgNs (c : C) : List Nat → List Expr → Bool
  | [], [] => true
  | i :: is, e :: es => tgN c i e && tgNs c is es
  | _, _ => false
def tgB (c : C) : Tg → Expr → Bool
  | .var i, e => tgN c i e
  | .tup is, .Tuple es _ _ => tgNs c is es
  | _, _ => false
def isTuple : Expr → Bool
  | .Tuple _ _ _ => true
  | _ => false
def argsOf (k : Ik) (x : Expr) : List Expr := match k, x with
  | .seq, x => [x]
  | _, .Call _ xs _ _ => xs
  | _, _ => []
def kN : Ik → Str
  | .enum => "enumerate" | .zip => "zip" | _ => "range"
def kLen : Ik → Nat
  | .range2 => 2 | .range3 => 3 | .zip => 2 | _ => 1
def srcB (gi : GI) (c : C) (k : Ik) (tg x : Expr) : Bool := match k, x with
  | .seq, x => notSet x && noStar x
  | k, .Call (.Name n _) xs [] _ => decide (n = kN k) && gl c n && gi.bi.contains n && xs.all noStar && decide (xs.length = kLen k) && (match k with
    | .enum => isTuple tg
    | .zip => isTuple tg
    | _ => true)
  | _, _ => false
def bfN : Bf → Str
  | .len => "len" | .abs => "abs" | .int => "int" | .str => "str" | .repr => "repr" | .list => "list" | .tuple => "tuple" | .max => "max" | .min => "min" | .all => "all" | .any => "any" | .sum => "sum" | .sorted => "sorted" | .sset => "" | .zip4 => "" | .bool => "bool"
theorem bf_boot : ∀ b : Bf, fusB b = false → bootBuiltins (bfN b) = some (fBf b)
  | .len, _ => rfl | .abs, _ => rfl | .int, _ => rfl | .str, _ => rfl | .repr, _ => rfl | .list, _ => rfl | .tuple, _ => rfl | .max, _ => rfl | .min, _ => rfl | .all, _ => rfl | .any, _ => rfl | .sum, _ => rfl | .sorted, _ => rfl | .bool, _ => rfl
  | .sset, h => nomatch h | .zip4, h => nomatch h
theorem bf_main : ∀ b : Bf, (bfN b == "__name__") = false ∧ (bfN b == ("__debug__" : Str)) = false := by
  intro b; cases b <;> decide
def isSset : Bf → Bool
  | .sset => true
  | _ => false
def isZ4 : Bf → Bool
  | .zip4 => true
  | _ => false
def tyN' : Ty → Str
  | .int => "int" | .str => "str" | .bool => "bool" | .list => "list" | .tuple => "tuple" | .dict => "dict" | .cls _ => ""
def tyNB (gi : GI) (c : C) (t : Ty) (n : Str) : Bool := gl c n && (match t with
  | .cls d => (match gi.gc.lookup n with
    | some e => decide (d = e) && clOk gi.pg d
    | none => false)
  | t => decide (n = tyN' t) && gi.bi.contains n)
mutual
def mE (gi : GI) : E → C → Expr → Bool
  | .k v, c, x => kB gi c v x
  | .dk kvs, _, .Dict keys values _ => dkB kvs keys values
  | .var i, c, .Name n _ => varB c i n
  | .tup es, c, .Tuple xs _ _ => mEs gi es c xs
  | .lst es, c, .List xs _ => mEs gi es c xs
  | .op o a b, c, .BinOp x p y _ => opB o p && mE gi a c x && mE gi b c y
  | .neg a, c, .UnaryOp .USub x _ => mE gi a c x
  | .not a, c, .UnaryOp .Not x _ => !isIte a && mE gi a c x
  | .and a b, c, .BoolOp .And (x :: y :: rest) p => !isIte a && !isIte b && mE gi a c x && (match rest with
    | [] => mE gi b c y
    | _ => mE gi b c (.BoolOp .And (y :: rest) p))
  | .or a b, c, .BoolOp .Or (x :: y :: rest) p => !isIte a && !isIte b && mE gi a c x && (match rest with
    | [] => mE gi b c y
    | _ => mE gi b c (.BoolOp .Or (y :: rest) p))
  | .ite d a b, c, .IfExp u x y _ => !isIte d && mE gi d c u && mE gi a c x && mE gi b c y
  | .cmp o a b, c, .Compare x [p] [y] _ => cpB o p && (!isNB o || isNon b) && !behindInMarks p y && mE gi a c x && mE gi b c y
  | .chain o o2 a b d, c, .Compare x [p, p2] [y, z] _ => cpB o p && cpB o2 p2 && !isNB o && !isNB o2 && !behindInMarks p2 z && mE gi a c x && mE gi b c y && mE gi d c z
  | .idx a b, c, .Subscript x y _ => noSlice y && mE gi a c x && mE gi b c y
  | .slc a lo hi, c, .Subscript x (.Slice l h none _) _ => mE gi a c x && (match l with
    | none => isNo lo
    | some e => !isNo lo && mE gi lo c e) && (match h with
    | none => isNo hi
    | some e => !isNo hi && mE gi hi c e)
  | .rev a, c, .Subscript x (.Slice none none (some (.UnaryOp .USub (.Constant (.int 1) _ _) _)) _) _ => mE gi a c x
  | .attr a f, c, .Attribute x f' _ => decide (f = f') && baseB x && mE gi a c x
  | .call f es, c, .Call (.Name n _) xs [] _ => gl c n && (match gi.gf.lookup n with
    | some f' => decide (f = f')
    | none => false) && (gi.pg.fs f).isSome && fewArgs xs && mEs gi es c xs
  | .call f es, c, .Call (.Attribute (.Name n _) m ap) (x :: xs) [] p => gl c n && (match gi.sm.lookup (n, m) with
    | some f' => decide (f = f')
    | none => false) && (gi.pg.fs f).isSome && fewArgs (x :: xs) && (ap.endLine == p.line) && mEs gi es c (x :: xs)
  | .make d es, c, .Call (.Name n _) xs [] _ => gl c n && (match gi.gc.lookup n with
    | some d' => decide (d = d')
    | none => false) && ((gi.pg.cs d).bind (·.init)).isSome && fewArgs xs && mEs gi es c xs
  | .meth a m es, c, .Call (.Attribute x m' ap) xs [] p => decide (m = m') && baseB x && fewArgs xs && (ap.endLine == p.line) && mE gi a c x && mEs gi es c xs
  | .bf b es, c, .Call (.Name n _) (x :: xs) [] _ => if isSset b then (match x, xs with
      | .Call (.Name m _) [y] [] _, [] => decide (n = "sorted") && decide (m = "set") && gl c n && gl c m && gi.bi.contains n && gi.bi.contains m && fewArgs [y] && mEs gi es c [y]
      | _, _ => false) else if isZ4 b then (match x, xs with
      | .Call (.Name m _) [y, y2, y3, y4] [] _, [] => decide (n = "list") && decide (m = "zip") && gl c n && gl c m && gi.bi.contains n && gi.bi.contains m && fewArgs [y, y2, y3, y4] && mEs gi es c [y, y2, y3, y4]
      | _, _ => false) else decide (n = bfN b) && gl c n && gi.bi.contains n && fewArgs (x :: xs) && mEs gi es c (x :: xs)
  | .bm b a es, c, .Call (.Attribute x m ap) xs [] p => decide (m = bmN b) && baseB x && fewArgs xs && (ap.endLine == p.line) && mE gi a c x && mEs gi es c xs
  | .comp elt t k src d, c, .ListComp x [⟨tg, iter, ifs, 0⟩] scope _ => mEs gi src c (argsOf k iter) && srcB gi c k tg iter && notSet iter && blkC c.N c.sc scope ((tgIx t).map fun i => ((c.N[i]?).getD "", i)) &&
      tgB ⟨c.N, relS scope c.sc, scope⟩ t tg && mE gi elt ⟨c.N, relS scope c.sc, scope⟩ x && (match ifs with
        | [] => isNo d
        | [y] => !isNo d && !isIte d && mE gi d ⟨c.N, relS scope c.sc, scope⟩ y
        | _ => false)
  | .comp2 elt t k src t1 k1 src1, c, .ListComp x [⟨tg, iter, [], 0⟩, ⟨tg1, iter1, [], 0⟩] scope _ => mEs gi src c (argsOf k iter) && srcB gi c k tg iter && notSet iter && notSet iter1 && blkC c.N c.sc scope ((tgIx t ++ tgIx t1).map fun i => ((c.N[i]?).getD "", i)) && tgB ⟨c.N, relS scope c.sc, scope⟩ t tg && tgB ⟨c.N, relS scope c.sc, scope⟩ t1 tg1 && mEs gi src1 ⟨c.N, relS scope c.sc, scope⟩ (argsOf k1 iter1) && srcB gi ⟨c.N, relS scope c.sc, scope⟩ k1 tg1 iter1 && mE gi elt ⟨c.N, relS scope c.sc, scope⟩ x
  | .isi a [t], c, .Call (.Name n _) [x, .Name y _] [] _ => decide (n = "isinstance") && gl c n && gi.bi.contains n && noStar x && tyNB gi c t y && mE gi a c x
  | .fstr a, c, .JoinedStr [.FormattedValue x (-1) none _] _ => mE gi a c x
  | _, _, _ => false
def mEs (gi : GI) : Es → C → List Expr → Bool
  | .nil, _, [] => true
  | .cons e r, c, x :: xs => noStar x && mE gi e c x && mEs gi r c xs
  | _, _, _ => false
end
end PI
end

section
set_option Elab.async false
set_option linter.all false
set_option maxRecDepth 100000
/-! PyM1: what the look at an expression is good for. -/
namespace PI
open PySem PySem.Spec PyProof.Rows L2 TL RZ
/-- a class of errors with an __init__ that sets one attribute -/
structure XcOk (K : PySem.W.Frag) (C : Addr) (f : Str) (fI : Addr) (fd : FuncData) (ps : List Str) : Prop where
  xf : XfC K C
  no : PySem.W.findIn K (.ref C) f = some none
  ox : OexC K C
  ini : PySem.W.findIn K (.ref C) "__init__" = some (some (.ref fI))
  ty : PySem.W.typeIn K (.ref fI) = some (.type "function")
  run : ∀ (CX : CXT) (P : Program) (w : World) (mg : Str → Option Value) (base : Heap), FnOk P w K mg base CX 1 fI fd ps (spX K f C)
/-- the program's facts -/
structure Prg (gi : GI) (ad : Ad) (K : PySem.W.Frag) (mg : Str → Option Value) : Prop where
  gf : ∀ n f, gi.gf.lookup n = some f → mg n = some (.ref (ad.fa f))
  kp : ∀ f, (gi.pg.fs f).isSome = true → PySem.W.keepIn K (.ref (ad.fa f)) = true
  binds : ∀ f, (gi.pg.fs f).isSome = true → Binds K (ad.fd f) (gi.pn f) []
  gc : ∀ n d, gi.gc.lookup n = some d → mg n = some (.ref (ad.ca d))
  mkc : ∀ d f, (gi.pg.cs d).bind (·.init) = some f → Mk K (ad.ca d) (ad.fa f) ∧ Cls K (ad.ca d) ∧ (gi.pg.fs f).isSome = true
  mts : ∀ d m f, (gi.pg.cs d).bind (·.ms.lookup m) = some f → Meth K (ad.ca d) m (ad.fa f) ∧ (gi.pg.fs f).isSome = true
  stm : ∀ d f, (gi.pg.cs d).bind (·.strm) = some f → PySem.W.findIn K (.ref (ad.ca d)) "__str__" = some (some (.ref (ad.fa f))) ∧ PySem.W.isFn K (.ref (ad.fa f)) = true ∧ (gi.pg.fs f).isSome = true
  gk : ∀ n v, gi.gk.lookup n = some v → kOk v = true ∧ ∃ u, mg n = some u ∧ RelV (kv v) u
  bi : ∀ n, gi.bi.contains n = true → mg n = none
  sm : ∀ n m f, gi.sm.lookup (n, m) = some f → ∃ C, mg n = some (.ref C) ∧ StM K C m (ad.fa f)
  eqs : ∀ d f, (gi.pg.cs d).bind (·.eqm) = some f → PySem.W.findIn K (.ref (ad.ca d)) "__eq__" = some (some (.ref (ad.fa f))) ∧ PySem.W.isFn K (.ref (ad.fa f)) = true ∧ PySem.W.findIn K (.ref (ad.ca d)) "__ne__" = some (some (.builtin "object.__ne__")) ∧ PySem.W.mroIn K (ad.ca d) (.type "object") = some true ∧ (gi.pg.fs f).isSome = true
  isf : IsF K ad.ca gi.pg
  mods : (K.lookup sysModules).isSome = true
  fld : ∀ d k f, gi.pg.cs d = some k → k.flds.contains f = true → NoAttr K (ad.ca d) f
  xne : ∀ a, gi.xn a = (gi.pg.cs a).bind (·.xf)
  xcs : ∀ c f, (gi.pg.cs c).bind (·.xf) = some f → ∃ i, (gi.pg.cs c).bind (·.xi) = some i ∧ (gi.pg.fs i).isSome = true ∧ XcOk K (ad.ca c) f (ad.fa i) (ad.fd i) (gi.pn i)
  xc0 : ∀ c k, gi.pg.cs c = some k → k.exc = true → k.xf = none → Xc0 K (ad.ca c)
  exm : ∀ a c b, exIs gi.pg a c = some b → (gi.pg.cs c).any (·.exc) = true → PySem.W.exmOne K (.ref (ad.ca a)) (.ref (ad.ca c)) = some b
  ky1 : ∀ c d, gi.ky.contains (c, some d) = true → PySem.W.kitOne K (.ref (ad.ca c)) (.ref (ad.ca d)) = some true
  ky2 : ∀ c, gi.ky.contains (c, none) = true → PySem.W.kitOne K (.ref (ad.ca c)) (.type "ValueError") = some true
  gcd : ∀ d k, gi.pg.cs d = some k → ∃ n, (n, d) ∈ gi.gc
/-- what the calls do -/
def Cls1 (gi : GI) (ad : Ad) (g : G) (k : Nat) (P : Program) (w : World) (K : PySem.W.Frag) (mg : Str → Option Value) (base : Heap) : Prop :=
  ∀ f, (gi.pg.fs f).isSome = true → FnG P w K mg base k (ad.fa f) (ad.fd f) (gi.pn f) (SpI K ad.ca gi.xn (g.call f) (gi.pn f).length) ∧ Few (g.call f) (gi.pn f).length
structure Cok (gi : GI) (ad : Ad) (g : G) (W : WX) (k : Nat) (c : C) (X : Cx) : Prop where
  N : X.N = c.N
  sc : X.env.scope = c.sc
  nd : X.N.Nodup
  fn : ∀ x, c.ow.names.lookup x = some .cell → X.fn x = true
  calm : X.calm = true
  rm : Room (k + 2) X.A
  gd : X.A.guards = some []
  tk : Takes X W
  pr : Prg gi ad X.K X.mg
  gp : g.pg = gi.pg
  cl : Cls1 gi ad g k X.prog X.w X.K X.mg X.base
  more : ∀ Y : Cx, Y.prog = X.prog → Y.w = X.w → Y.K = X.K → Y.mg = X.mg → Y.base = X.base → Y.A = X.A → Y.calm = true → More Y ad.ca gi.xn g
theorem Cok.cp {gi : GI} {ad : Ad} {g : G} {W : WX} {k : Nat} {c : C} {X : Cx} (ok : Cok gi ad g W k c X) : ∀ o : Cp, OpR X (compareOp (cper o)) (rCp ad.ca gi.xn g X.K o) := (ok.more X rfl rfl rfl rfl rfl rfl ok.calm).cp
theorem un65 {k : Nat} {A : Around} (r : Room k A) : A.units + 65 < cLine := by
  have := r.un
  simp only [cLine] at *
  omega
section
variable {gi : GI} {ad : Ad} {g : G} {W : WX} {k : Nat} {c : C} {X : Cx}
theorem gl_ok (ok : Cok gi ad g W k c X) {n : Str} (h : gl c n = true) : Gl X n ∧ (n == ("__debug__" : Str)) = false := by
  unfold gl at h
  rw [Bool.and_eq_true] at h
  refine ⟨?_, by simpa using h.2⟩
  have := of_decide_eq_true h.1
  show X.env.scope.names.lookup n = some .globalImplicit
  rw [ok.sc]
  exact this
theorem bi_ok (ok : Cok gi ad g W k c X) {n : Str} (h : gi.bi.contains n = true) : X.mg n = none := ok.pr.bi n h
theorem m_k (ok : Cok gi ad g W k c X) {v : Val} {x : Expr} (h : kB gi c v x = true) : PE X x (tI X.K ad.ca gi.xn g W (.k v)) := by
  unfold kB at h
  split at h
  · cases of_decide_eq_true h; exact sE_k pe_int rfl
  · have := eq_of_beq h; subst this; exact sE_k pe_bl rfl
  · exact sE_k pe_non rfl
  · rw [Bool.and_eq_true] at h
    have e := of_decide_eq_true h.1
    rw [← e]
    exact sE_k pe_str h.2
  · rename_i n p
    rw [Bool.and_eq_true] at h
    obtain ⟨g1, g2⟩ := gl_ok ok h.1
    cases e : gi.gk.lookup n with
    | none => rw [e] at h; cases h.2
    | some w =>
      rw [e] at h
      have := kEq_ok h.2
      subst this
      obtain ⟨h1, u, h2, h3⟩ := ok.pr.gk n _ e
      exact sE_k (pe_glob g1 h2 h3 g2) h1
  · cases h
theorem m_var (ok : Cok gi ad g W k c X) {i : Nat} {n : Str} {p : Pos} (h : varB c i n = true) : PE X (.Name n p) (tI X.K ad.ca gi.xn g W (.var i)) := by
  unfold varB at h
  simp only [Bool.and_eq_true] at h
  obtain ⟨⟨⟨h1, h2⟩, h3⟩, h4⟩ := h
  refine sE_var (pe_var (by rw [ok.N]; exact of_decide_eq_true h1) ?_ (by simpa using h3) (by simpa using h4))
  unfold visB at h2
  unfold Vis
  rw [ok.sc]
  simp only [Bool.or_eq_true, decide_eq_true_eq] at h2
  rcases h2 with (h2 | h2) | h2
  · exact .inl h2
  · exact .inr (.inl h2)
  · exact .inr (.inr h2)
theorem m_tgN (ok : Cok gi ad g W k c X) {i : Nat} {e : Expr} (h : tgN c i e = true) : PG X e (gName i) := by
  unfold tgN at h
  split at h
  · rename_i n p
    rw [Bool.and_eq_true] at h
    have h1 := of_decide_eq_true h.1
    have h2 := h.2
    rw [Bool.or_eq_true] at h2
    rcases h2 with h2 | h2
    · have h2 := of_decide_eq_true h2
      exact pg_name ok.nd (by rw [ok.N]; exact h1) (.inl (by rw [ok.sc]; exact h2)) (.inr (by rw [ok.sc]; exact h2))
    · rw [Bool.and_eq_true] at h2
      exact pg_name ok.nd (by rw [ok.N]; exact h1) (.inr (by rw [ok.sc]; exact of_decide_eq_true h2.1)) (.inl (ok.fn _ (of_decide_eq_true h2.2)))
  · cases h
theorem m_tgNs (ok : Cok gi ad g W k c X) : ∀ {is : List Nat} {es : List Expr}, tgNs c is es = true → PGs X es (gNs is) ∧ (assignEach es X.env).length = is.length ∧ (assignEach es X.env).findIdx? (·.1) = none
  | [], [], _ => ⟨pgs_nil, rfl, rfl⟩
  | i :: is, e :: es, h => by
    simp only [tgNs, Bool.and_eq_true] at h
    obtain ⟨h1, h2, h3⟩ := m_tgNs ok h.2
    have ne : ∃ n p, e = .Name n p := by
      have := h.1
      unfold tgN at this
      split at this
      · exact ⟨_, _, rfl⟩
      · cases this
    obtain ⟨n, p, rfl⟩ := ne
    have ea : assignEach (.Name n p :: es) X.env = (false, assign (.Name n p) X.env) :: assignEach es X.env := rfl
    refine ⟨pgs_cons (m_tgN ok h.1) h1 (by rw [ea]; rfl), by rw [ea]; simp [h2], ?_⟩
    rw [ea, List.findIdx?_cons]
    simp [h3]
  | [], _ :: _, h => by cases h
  | _ :: _, [], h => by cases h
theorem m_tg (ok : Cok gi ad g W k c X) {t : Tg} {e : Expr} (h : tgB c t e = true) : PG X e (gOf X.K t) := by
  unfold tgB at h
  split at h
  · exact m_tgN ok h
  · obtain ⟨h1, h2, h3⟩ := m_tgNs ok h
    exact ⟨fun pins s sg H v u Q I r hw => hw.elim ((pg_tup ok.calm h1 h2 h3).run pins s sg H v u Q I r) ((pg_lst ok.calm h1 h2 h3).run pins s sg H v u Q I r)⟩
  · cases h
theorem tuple_of {e : Expr} (h : isTuple e = true) : ∃ es k p, e = .Tuple es k p := by cases e <;> first | exact ⟨_, _, _, rfl⟩ | cases h
theorem m_src (ok : Cok gi ad g W k c X) {kk : Ik} {tg x : Expr} {src : Es} (h : srcB gi c kk tg x = true) (ha : PA X (argsOf kk x) (tIs X.K ad.ca gi.xn g W src)) (h1 : kk = .seq → ∃ e, src = .cons e .nil ∧ PE X x (tI X.K ad.ca gi.xn g W e)) : L2.PI X tg x (tSrc X.K ad.ca gi.xn g W kk src) := by
  unfold srcB at h
  split at h
  · obtain ⟨e, rfl, he⟩ := h1 rfl
    exact sS_seq he
  · rename_i n p xs pos hne
    simp only [Bool.and_eq_true, decide_eq_true_eq] at h
    obtain ⟨⟨⟨⟨⟨h1, h2⟩, h3⟩, h4⟩, h5⟩, h6⟩ := h
    subst h1
    obtain ⟨g1, _⟩ := gl_ok ok h2
    have g2 := bi_ok ok h3
    cases kk with
    | seq => exact absurd rfl hne
    | range =>
      obtain ⟨a, rfl⟩ : ∃ a, xs = [a] := by
        match xs, h5 with
        | [a], _ => exact ⟨a, rfl⟩
      rw [List.all_cons, Bool.and_eq_true] at h4
      exact sS_range1 g1 g2 (star_cons h4.1 [] _) ha
    | range2 =>
      obtain ⟨a, b, rfl⟩ : ∃ a b, xs = [a, b] := by
        match xs, h5 with
        | [a, b], _ => exact ⟨a, b, rfl⟩
      simp only [List.all_cons, Bool.and_eq_true, List.all_nil, Bool.and_true] at h4
      refine sS_range2 g1 g2 ?_ (star_cons h4.2 [] _) ha
      rw [star_cons h4.1, star_cons h4.2]
      rfl
    | range3 =>
      obtain ⟨a, b, d, rfl⟩ : ∃ a b d, xs = [a, b, d] := by
        match xs, h5 with
        | [a, b, d], _ => exact ⟨a, b, d, rfl⟩
      rw [List.all_cons, Bool.and_eq_true] at h4
      exact sS_range3 g1 g2 (star_cons h4.1 _ _) (star_any _ _ h4.2) ha
    | enum =>
      obtain ⟨a, rfl⟩ : ∃ a, xs = [a] := by
        match xs, h5 with
        | [a], _ => exact ⟨a, rfl⟩
      obtain ⟨es, kk, tp, rfl⟩ := tuple_of h6
      rw [List.all_cons, Bool.and_eq_true] at h4
      exact sS_enum g1 g2 (star_cons h4.1 [] _) ha
    | zip =>
      obtain ⟨a, b, rfl⟩ : ∃ a b, xs = [a, b] := by
        match xs, h5 with
        | [a, b], _ => exact ⟨a, b, rfl⟩
      obtain ⟨es, kk, tp, rfl⟩ := tuple_of h6
      rw [List.all_cons, Bool.and_eq_true] at h4
      exact sS_zip g1 g2 (star_cons h4.1 _ _) (star_any _ _ h4.2) ha
  · cases h
/-- inside a comprehension -/
theorem blk_ok (ok : Cok gi ad g W k c X) (s : Shared) (H : Hp) (scope : Scope) (C : Addr) (cl : List (Str × Addr)) (fp : List Addr) : Cok gi ad g W0 k ⟨c.N, relS scope c.sc, scope⟩ (X.blk s H scope (compEnvC scope cl C X.env) fp) where
  N := ok.N
  sc := by
    show relS scope X.env.scope = relS scope c.sc
    rw [ok.sc]
  nd := ok.nd
  fn := fun x h => by
    show (scope.names.lookup x == some .cell) = true
    have h : scope.names.lookup x = some .cell := h
    rw [h]
    rfl
  calm := ok.calm
  rm := ok.rm
  gd := ok.gd
  tk := takes_none5
  pr := ok.pr
  gp := ok.gp
  cl := ok.cl
  more := ok.more
theorem mts_ok (ok : Cok gi ad g W k c X) : Mts X ad.ca gi.xn g k := fun d m f h => by
  rw [ok.gp] at h
  obtain ⟨h1, h2⟩ := ok.pr.mts d m f h
  obtain ⟨h3, h4⟩ := ok.cl f h2
  exact ⟨_, _, _, h1, h3, ok.pr.binds f h2, h4⟩
theorem few_split {x : Expr} {xs : List Expr} (h : fewArgs (x :: xs) = true) : noStar x = true ∧ xs.all noStar = true := by
  unfold fewArgs at h
  rw [Bool.and_eq_true, List.all_cons, Bool.and_eq_true] at h
  exact h.1
theorem m_call (ok : Cok gi ad g W k c X) {f : Nat} {n : Str} {p pos : Pos} {xs : List Expr} {es : Es} (hg : gl c n = true) (hm : X.mg n = some (.ref (ad.fa f))) (hs : (gi.pg.fs f).isSome = true) (hf : fewArgs xs = true) (ha : PA X xs (tIs X.K ad.ca gi.xn g W es)) (h0 : xs = [] → es = .nil) : PE X (.Call (.Name n p) xs [] pos) (tI X.K ad.ca gi.xn g W (.call f es)) := by
  obtain ⟨g1, g2⟩ := gl_ok ok hg
  obtain ⟨F, fw⟩ := ok.cl f hs
  have rm := ok.rm.mono (Nat.le_add_right k 2)
  cases xs with
  | nil =>
    cases h0 rfl
    refine PE.weak (pe_callG0 F rm ok.gd g1 hm (ok.pr.kp f hs) (ok.pr.binds f hs) ok.tk g2) fun sg H Q h => ?_
    obtain ⟨rho, fr, s, R, Fr, q⟩ := sp_call (ies := .nil) fw h
    simp only [evs] at q
    exact q.ret R _ (by simp [VRs])
  | cons x xs =>
    obtain ⟨n1, n2⟩ := few_split hf
    exact PE.weak (pe_callG F rm ok.gd g1 hm (ok.pr.kp f hs) (ok.pr.binds f hs) ok.tk ha g2 (star_cons n1 _ _) (star_any _ _ n2)) fun sg H Q h => sp_call fw h
theorem m_make (ok : Cok gi ad g W k c X) {d f : Nat} {n : Str} {p pos : Pos} {xs : List Expr} {es : Es} (hg : gl c n = true) (hm : X.mg n = some (.ref (ad.ca d))) (hi : (gi.pg.cs d).bind (·.init) = some f) (hf : fewArgs xs = true) (ha : PA X xs (tIs X.K ad.ca gi.xn g W es)) (h0 : xs = [] → es = .nil) : PE X (.Call (.Name n p) xs [] pos) (tI X.K ad.ca gi.xn g W (.make d es)) := by
  obtain ⟨g1, g2⟩ := gl_ok ok hg
  obtain ⟨M, hc, hs⟩ := ok.pr.mkc d f hi
  obtain ⟨F, fw⟩ := ok.cl f hs
  have hi' : (g.pg.cs d).bind (·.init) = some f := by rw [ok.gp]; exact hi
  cases xs with
  | nil =>
    cases h0 rfl
    refine PE.weak (pe_makeG0 M F (ok.rm.mono (Nat.le_succ _)) ok.gd g1 hm (ok.pr.binds f hs) ok.tk g2) fun sg H Q h => ?_
    obtain ⟨rho, fr, s, R, Fr, q⟩ := sp_make (ies := .nil) fw hc hi' h
    simp only [evs] at q
    exact q.ret R _ (by simp [VRs])
  | cons x xs =>
    obtain ⟨n1, n2⟩ := few_split hf
    exact PE.weak (pe_makeG M F (ok.rm.mono (Nat.le_succ _)) ok.gd g1 hm (ok.pr.binds f hs) ok.tk ha g2 (star_cons n1 _ _) (star_any _ _ n2)) fun sg H Q h => sp_make fw hc hi' h
theorem m_meth (ok : Cok gi ad g W k c X) {m : Str} {x : Expr} {ap pos : Pos} {xs : List Expr} {a : E} {es : Es} (hb : baseB x = true) (hf : fewArgs xs = true) (hl : (ap.endLine == pos.line) = true) (hx : PE X x (tI X.K ad.ca gi.xn g W a)) (ha : PA X xs (tIs X.K ad.ca gi.xn g W es)) (h0 : xs = [] → es = .nil) : PE X (.Call (.Attribute x m ap) xs [] pos) (tI X.K ad.ca gi.xn g W (.meth a m es)) := by
  have rm := ok.rm.mono (Nat.le_add_right k 2)
  have mf : MtForm X x m ap pos xs (plOf x X.env) := mtform (baseB_ok hb m X.env) hf hl
  cases xs with
  | nil =>
    cases h0 rfl
    refine PE.weak (pe_methD0 hx rm ok.gd ok.tk mf) fun sg H Q h => ?_
    obtain ⟨rho, fr, s, R, Fr, q⟩ := sp_meth (ies := .nil) (mts_ok ok) h
    refine ⟨rho, fr, s, R, Fr, q.imp fun v rho1 s1 H1 x1 R1 q b hb => ?_⟩
    obtain ⟨a1, C, dx, f, fs, fd, ps, sp, e1, e2, e3, e4, e5, e6, e7, rho2, fr2, s2, R2, F2, q2⟩ := q b hb
    simp only [evs] at q2
    exact ⟨a1, C, dx, f, fs, fd, ps, sp, e1, e2, e3, e4, e5, e6, e7, q2.ret R2 _ (by simp [VRs])⟩
  | cons y xs =>
    obtain ⟨n1, n2⟩ := few_split hf
    exact PE.weak (pe_methD hx rm ok.gd ok.tk ha (star_cons n1 _ _) (star_any _ _ n2) mf) fun sg H Q h => sp_meth (mts_ok ok) h
theorem m_stat (ok : Cok gi ad g W k c X) {f : Nat} {n m : Str} {p ap pos : Pos} {x : Expr} {xs : List Expr} {es : Es} (hg : gl c n = true) (hm : gi.sm.lookup (n, m) = some f) (hs : (gi.pg.fs f).isSome = true) (hf : fewArgs (x :: xs) = true) (hl : (ap.endLine == pos.line) = true) (ha : PA X (x :: xs) (tIs X.K ad.ca gi.xn g W es)) : PE X (.Call (.Attribute (.Name n p) m ap) (x :: xs) [] pos) (tI X.K ad.ca gi.xn g W (.call f es)) := by
  obtain ⟨g1, g2⟩ := gl_ok ok hg
  obtain ⟨F, fw⟩ := ok.cl f hs
  obtain ⟨C, h1, h2⟩ := ok.pr.sm n m f hm
  obtain ⟨n1, n2⟩ := few_split hf
  exact PE.weak (pe_stat h2 F (ok.rm.mono (Nat.le_add_right k 2)) ok.gd g1 h1 (ok.pr.binds f hs) ok.tk g2 ha (star_cons n1 _ _) (star_any _ _ n2) (mtform rfl hf hl)) fun sg H Q h => sp_call fw h
theorem own_ix : ∀ (is : List Nat), (is.map fun i => (((c.N[i]?).getD "", i) : Str × Nat)).map (·.2) = is
  | [] => rfl
  | i :: is => by simp [own_ix is]
theorem m_comp (ok : Cok gi ad g W k c X) {ie ic : E} {t : Tg} {kk : Ik} {src : Es} {x tg iter : Expr} {ifs : List Expr} {scope : Scope} {pos : Pos} (hb : blkC c.N c.sc scope ((tgIx t).map fun i => ((c.N[i]?).getD "", i)) = true) (hs : notSet iter = true)
    (hi : L2.PI X tg iter (tSrc X.K ad.ca gi.xn g W kk src)) (ht : tgB ⟨c.N, relS scope c.sc, scope⟩ t tg = true)
    (he : ∀ Y, Cok gi ad g W0 k ⟨c.N, relS scope c.sc, scope⟩ Y → PE Y x (tI Y.K ad.ca gi.xn g W0 ie)) (hc : ∀ Y, Cok gi ad g W0 k ⟨c.N, relS scope c.sc, scope⟩ Y → PTs Y ifs (tCn Y.K ad.ca gi.xn g ic)) :
    PE X (.ListComp x [⟨tg, iter, ifs, 0⟩] scope pos) (tI X.K ad.ca gi.xn g W (.comp ie t kk src ic)) := by
  have hb' : BlkOk X.N X.env.scope scope ((tgIx t).map fun i => ((c.N[i]?).getD "", i)) := by rw [ok.N, ok.sc]; exact blkOk_by hb
  refine PE.weak (pe_lc (te := tI X.K ad.ca gi.xn g W0 ie) (tt := tCn X.K ad.ca gi.xn g ic) (g := gOf X.K t) ok.calm ok.nd hi hb' (fun s H C cl fp => m_tg (blk_ok ok s H scope C cl fp) ht) (fun s H C cl fp => hc _ (blk_ok ok s H scope C cl fp)) (fun s H C cl fp => he _ (blk_ok ok s H scope C cl fp)) (set_ok hs X.env)) fun sg H Q h => ?_
  rw [own_ix]
  exact s_comp h
theorem blk_two {N : List Str} : ∀ (is : List Nat), (is.map fun i => (((N[i]?).getD "", i) : Str × Nat)).map (·.2) = is
  | [] => rfl
  | i :: is => by simp [blk_two is]
theorem m_comp2 (ok : Cok gi ad g W k c X) {ie : E} {t t1 : Tg} {kk kk1 : Ik} {src src1 : Es} {x tg iter tg1 iter1 : Expr} {scope : Scope} {pos : Pos} (hb : blkC c.N c.sc scope ((tgIx t ++ tgIx t1).map fun i => ((c.N[i]?).getD "", i)) = true) (hs : notSet iter = true) (hs1 : notSet iter1 = true)
    (hi : L2.PI X tg iter (tSrc X.K ad.ca gi.xn g W kk src)) (ht : tgB ⟨c.N, relS scope c.sc, scope⟩ t tg = true) (hi1 : ∀ Y, Cok gi ad g W0 k ⟨c.N, relS scope c.sc, scope⟩ Y → L2.PI Y tg1 iter1 (tSrc Y.K ad.ca gi.xn g W0 kk1 src1)) (ht1 : tgB ⟨c.N, relS scope c.sc, scope⟩ t1 tg1 = true)
    (he : ∀ Y, Cok gi ad g W0 k ⟨c.N, relS scope c.sc, scope⟩ Y → PE Y x (tI Y.K ad.ca gi.xn g W0 ie)) :
    PE X (.ListComp x [⟨tg, iter, [], 0⟩, ⟨tg1, iter1, [], 0⟩] scope pos) (tI X.K ad.ca gi.xn g W (.comp2 ie t kk src t1 kk1 src1)) := by
  have hb' : BlkOk X.N X.env.scope scope ((tgIx t ++ tgIx t1).map fun i => ((c.N[i]?).getD "", i)) := by rw [ok.N, ok.sc]; exact blkOk_by hb
  have yes : ∀ Y : Cx, PTs Y [] tYes := fun Y => ⟨fun pins s sg H Q I q => pts_nil.run pins s sg H Q I q⟩
  refine PE.weak (pe_lc2 (te := tI X.K ad.ca gi.xn g W0 ie) (tt := tYes) (tt1 := tYes) (g := gOf X.K t) (g1 := gOf X.K t1) (wi1 := tSrc X.K ad.ca gi.xn g W0 kk1 src1) (vs1 := tgIx t1) ok.calm ok.nd hi hb' (fun i hi => by rw [own_ix]; exact List.mem_append_right _ hi) (fun s H C cl fp => m_tg (blk_ok ok s H scope C cl fp) ht) (fun s H C cl fp => yes _)
    (fun s H C cl fp => hi1 _ (blk_ok ok s H scope C cl fp)) (fun s H C cl fp => m_tg (blk_ok ok s H scope C cl fp) ht1) (fun s H C cl fp => yes _) (fun s H C cl fp => he _ (blk_ok ok s H scope C cl fp)) (set_ok hs X.env) (fun env => set_ok hs1 env)) fun sg H Q h => ?_
  rw [own_ix]
  exact s_comp2 h
theorem m_setLc2 (ok : Cok gi ad g W k c X) {ie : E} {t t1 : Tg} {kk kk1 : Ik} {src src1 : Es} {i : Nat} {y : Str} {py spos : Pos} {x tg iter tg1 iter1 : Expr} {scope : Scope} {pos : Pos} (hi0 : c.N[i]? = some y) (hl0 : c.sc.names.lookup y = some .local)
    (hsw : swapsWith (.ListComp x [⟨tg, iter, [], 0⟩, ⟨tg1, iter1, [], 0⟩] scope pos) (some (.Name y py)) spos.line X.env = pure true) (hb : blkC c.N c.sc scope ((tgIx t ++ tgIx t1).map fun i => ((c.N[i]?).getD "", i)) = true) (hs : notSet iter = true) (hs1 : notSet iter1 = true)
    (hi : L2.PI X tg iter (tSrc X.K ad.ca gi.xn g W kk src)) (ht : tgB ⟨c.N, relS scope c.sc, scope⟩ t tg = true) (hi1 : ∀ Y, Cok gi ad g W0 k ⟨c.N, relS scope c.sc, scope⟩ Y → L2.PI Y tg1 iter1 (tSrc Y.K ad.ca gi.xn g W0 kk1 src1)) (ht1 : tgB ⟨c.N, relS scope c.sc, scope⟩ t1 tg1 = true)
    (he : ∀ Y, Cok gi ad g W0 k ⟨c.N, relS scope c.sc, scope⟩ Y → PE Y x (tI Y.K ad.ca gi.xn g W0 ie)) :
    PS X (.Assign [.Name y py] (.ListComp x [⟨tg, iter, [], 0⟩, ⟨tg1, iter1, [], 0⟩] scope pos) spos) (sT X.K ad.ca gi.xn g W (.asg (.var i) (.comp2 ie t kk src t1 kk1 src1))) := by
  have hb' : BlkOk X.N X.env.scope scope ((tgIx t ++ tgIx t1).map fun i => ((c.N[i]?).getD "", i)) := by rw [ok.N, ok.sc]; exact blkOk_by hb
  have yes : ∀ Y : Cx, PTs Y [] tYes := fun Y => ⟨fun pins s sg H Q I q => pts_nil.run pins s sg H Q I q⟩
  refine PS.weak (ps_setLc2 (te := tI X.K ad.ca gi.xn g W0 ie) (tt := tYes) (tt1 := tYes) (g := gOf X.K t) (g1 := gOf X.K t1) (wi1 := tSrc X.K ad.ca gi.xn g W0 kk1 src1) (vs1 := tgIx t1) ok.calm ok.nd (by rw [ok.N]; exact hi0) (by rw [ok.sc]; exact hl0) hsw hi hb' (fun i hi => by rw [own_ix]; exact List.mem_append_right _ hi)
    (fun s H C cl fp => m_tg (blk_ok ok s H scope C cl fp) ht) (fun s H C cl fp => yes _) (fun s H C cl fp => hi1 _ (blk_ok ok s H scope C cl fp)) (fun s H C cl fp => m_tg (blk_ok ok s H scope C cl fp) ht1) (fun s H C cl fp => yes _) (fun s H C cl fp => he _ (blk_ok ok s H scope C cl fp)) (set_ok hs X.env) (fun env => set_ok hs1 env)) fun D sg H h => ?_
  rw [own_ix]
  exact s_asg (t := .var i) (fun _ _ _ h => s_comp2 h) h
theorem m_setLc (ok : Cok gi ad g W k c X) {ie ic : E} {t : Tg} {kk : Ik} {src : Es} {i : Nat} {y : Str} {py spos : Pos} {x tg iter : Expr} {ifs : List Expr} {scope : Scope} {pos : Pos} (hi0 : c.N[i]? = some y) (hl0 : c.sc.names.lookup y = some .local)
    (hsw : swapsWith (.ListComp x [⟨tg, iter, ifs, 0⟩] scope pos) (some (.Name y py)) spos.line X.env = pure true) (hb : blkC c.N c.sc scope ((tgIx t).map fun i => ((c.N[i]?).getD "", i)) = true) (hs : notSet iter = true)
    (hi : L2.PI X tg iter (tSrc X.K ad.ca gi.xn g W kk src)) (ht : tgB ⟨c.N, relS scope c.sc, scope⟩ t tg = true)
    (he : ∀ Y, Cok gi ad g W0 k ⟨c.N, relS scope c.sc, scope⟩ Y → PE Y x (tI Y.K ad.ca gi.xn g W0 ie)) (hc : ∀ Y, Cok gi ad g W0 k ⟨c.N, relS scope c.sc, scope⟩ Y → PTs Y ifs (tCn Y.K ad.ca gi.xn g ic)) :
    PS X (.Assign [.Name y py] (.ListComp x [⟨tg, iter, ifs, 0⟩] scope pos) spos) (sT X.K ad.ca gi.xn g W (.asg (.var i) (.comp ie t kk src ic))) := by
  have hb' : BlkOk X.N X.env.scope scope ((tgIx t).map fun i => ((c.N[i]?).getD "", i)) := by rw [ok.N, ok.sc]; exact blkOk_by hb
  refine PS.weak (ps_setLc (te := tI X.K ad.ca gi.xn g W0 ie) (tt := tCn X.K ad.ca gi.xn g ic) (g := gOf X.K t) ok.calm ok.nd (by rw [ok.N]; exact hi0) (by rw [ok.sc]; exact hl0) hsw hi hb' (fun s H C cl fp => m_tg (blk_ok ok s H scope C cl fp) ht) (fun s H C cl fp => hc _ (blk_ok ok s H scope C cl fp)) (fun s H C cl fp => he _ (blk_ok ok s H scope C cl fp)) (set_ok hs X.env)) fun D sg H h => ?_
  rw [own_ix]
  exact s_asg (t := .var i) (fun _ _ _ h => s_comp h) h
end
end PI
end

section
set_option Elab.async false
set_option linter.all false
set_option maxRecDepth 100000
/-! PyR0: repr of a deep value. -/
namespace PI
open PySem PySem.Spec PyProof PyProof.Rows L2 TL
theorem call_repr {X : Cx} (hk : (X.K.lookup sysModules).isSome = true) (hg : X.A.guards = some []) (hu : X.A.units + 65 < cLine) : CallR X (.builtin "repr") (rRepr X.K) := by
  intro pins sh sg H xs us Q I r h
  obtain ⟨x, d, rfl, hd, hdep, hs, hz, q⟩ := h
  obtain ⟨u, rfl, rx⟩ := vals1 r
  obtain ⟨as, rd, hal⟩ := DpX.reads I d x u hd rx
  have hno : d.hasDict = true → sysModules ∉ as := fun _ m => by
    obtain ⟨o, e⟩ := hal _ m
    exact noMods hk I e
  have deepR : ∀ a, x = .ref a → wpAny (model X.prog X.w) X.A (call (.builtin "repr") [u]) (EP X pins sg Q) X.xe sh := fun a e => by
    subst e
    cases rx
    exact repr_of_reads' rd hs hno hg (by omega) (fun b o e => e) (fun h' u tk hk => ⟨.str d.shown, H, I.kept hk, ⟨_, rfl⟩, q⟩) hz
  cases hd with
  | non =>
    cases rx
    exact P.repr_of_none ⟨.str _, H, I.tok _, ⟨_, rfl⟩, q⟩
  | bl b =>
    cases rx
    refine P.repr_of_bool ⟨.str _, H, I.tok _, ⟨_, rfl⟩, ?_⟩
    exact q
  | int i =>
    obtain ⟨t, rfl⟩ := rx
    have hi : i.natAbs.log2 < 1920 := of_decide_eq_true hs
    exact P.repr_of_int hi ⟨.str _, H, I.tok _, ⟨_, rfl⟩, q⟩
  | str z =>
    obtain ⟨t, rfl⟩ := rx
    exact P.repr_of_str ⟨.str _, H, I.tok _, ⟨_, rfl⟩, q⟩ hz
  | lst _ _ => exact deepR _ rfl
  | tup _ _ => exact deepR _ rfl
  | dct _ => exact deepR _ rfl
end PI
end

section
set_option Elab.async false
set_option linter.all false
set_option maxRecDepth 100000
/-! PyR1: list of a text, by the library's call_list_str. -/
namespace PI
open PySem PySem.Spec PyProof PyProof.Rows L2 TL
theorem valsGet : ∀ (xs : List V) (us : List Value), xs.length = us.length → (∀ (i : Nat) (x : V) (u : Value), xs[i]? = some x → us[i]? = some u → RelV x u) → Vals xs us
  | [], [], _, _ => .nil
  | [], _ :: _, h, _ => by simp at h
  | _ :: _, [], h, _ => by simp at h
  | x :: xs, u :: us, h, k => .cons (k 0 x u rfl rfl) (valsGet xs us (by simpa using h) fun i y v e1 e2 => k (i + 1) y v (by simpa using e1) (by simpa using e2))
theorem vals_signs {z : Str} {ac : Array Value} (h : ItemsOf (SignAt z) ac z.cps.size) : Vals (z.cps.toList.map fun c => V.str ⟨#[c]⟩) ac.toList := by
  obtain ⟨h1, h2⟩ := h
  refine valsGet _ _ (by simp [h1]) fun i x u e1 e2 => ?_
  obtain ⟨c, t, q1, rfl⟩ := h2 i u (by simpa using e2)
  rw [List.getElem?_map] at e1
  have q2 : z.cps.toList[i]? = some c := by simpa using q1
  rw [q2] at e1
  cases e1
  exact ⟨t, rfl⟩
theorem call_lstS {X : Cx} (hc : X.calm = true) : CallR X (.type "list") rLstS := by
  intro pins sh sg H xs us Q I r h
  obtain ⟨z, rfl, hz, q⟩ := h
  obtain ⟨u, rfl, rx⟩ := vals1 r
  obtain ⟨t, rfl⟩ := rx
  refine PySem.call_list_str (I.ok.hd hc) z t (fun h' tk ac n' hk hD items => ?_) hz
  have hf : H sh.heap.objs.size = none := I.hok.fresh (Nat.le_refl _)
  refine ⟨.ref sh.heap.objs.size, _, I.laid (t' := tk) (o := .lst (z.cps.toList.map fun c => V.str ⟨#[c]⟩)) hk (Nat.le_refl _) ⟨?_, ac.toList, n', vals_signs items, by simpa using hD⟩, rfl, q _ hf⟩
  rw [List.length_map]
  exact hz
end PI
end

section
set_option Elab.async false
set_option linter.all false
set_option maxRecDepth 100000
/-! PyR3: one's own == and != between instances of one class. -/
namespace PySem
namespace OwnCmp
open PySem PySem.Spec PyProof.Rows PySem.SeqAt
section
variable {M : Model} {prog : Program} {w : World} {A : Around} {E : Value → Shared → Prop} {st : Shared} {K : PySem.W.Frag} {x y C f : Addr} {ox oy : Obj} {od od2 : Option Obj}
theorem bound_ne {args : List Value} {Q : Option Value → Shared → Prop} (kin : K.In st.heap) (I : PySem.W.InstAt st.heap x ox C od) (hs : PySem.W.findIn K (.ref C) "__ne__" = some (some (.builtin "object.__ne__")))
    (h : wpAny M A (call (.builtin "object.__ne__") (.ref x :: args)) (fun v => Q (some v)) E st) : wpAny M A (callSpecialIfBound? (.ref x) "__ne__" args) Q E st := by
  simp only [callSpecialIfBound?, bindSpecialIfBound?]
  refine wpAny_holding (wpAny_bind (wpAny_bind (wpAny_bind (I.type.here ((PySem.W.looks_findIn kin hs).here ?_)))))
  refine wpAny_bind (wpAny_askSetting (wpAny_ite ?_))
  have tail : wpAny M A (call (.builtin "object.__ne__") ([.ref x] ++ args) >>= fun z => pure (some z)) Q E st := wpAny_bind (wpAny_mono h (fun z s' q => wpAny_pure q) fun _ _ q => q)
  split
  · exact wpAny_bind (wpAny_of_eq (F.cmp_object.ne.bind _) (wpAny_pure (by exact tail)))
  · exact wpAny_tryCatch (wpAny_bind (wpAny_of_eq (F.cmp_object.ne.bind _) (wpAny_pure (by exact tail))))
theorem entry_ne {Q : Fin → Shared → Prop} {v : Value} (hu : A.units < cLine) (kin : K.In st.heap) (I : PySem.W.InstAt st.heap x ox C od) (he : PySem.W.findIn K (.ref C) "__eq__" = some (some (.ref f))) (hf : PySem.W.isFn K (.ref f) = true)
    (hq : wpAny (model prog w) A (call (.ref f) [.ref x, v]) (fun v s' => ∃ b, v = .bool b ∧ Q (.done (.ret (.bool (!b)))) s') E st) : wpAny (model prog w) A (Builtin.«object.__ne__» ⟨[.ref x, v], []⟩) Q E st := by
  unfold Builtin.«object.__ne__»
  repeat (first
    | with_reducible refine wpAny_cRoomFor hu ?_
    | (refine wpAny_bind (m := callSpecialIfBound? (.ref x) (Str.ofString "__eq__") [v]) (PySem.W.ifBound_K kin I he hf (wpAny_mono hq (fun r s' hr => by
          obtain ⟨b, rfl, q⟩ := hr
          repeat (first | exact q | exact wpAny_pure q | exact wpAny_truthy_bool q | (refine wpAny_bind (m := truthy (.bool _)) (wpAny_truthy_bool ?_)) | wp_step)) fun _ _ e => e)))
    | wp_step)
theorem rich_ne {Q : Value → Shared → Prop} {v tb : Value} (hu : A.units + 1 < cLine) (kin : K.In st.heap) (I : PySem.W.InstAt st.heap x ox C od) (J : PySem.W.Looks (model prog w) st.heap (typeOf v) tb) (hfst : PySem.W.notFirst K C tb = true) (he : PySem.W.findIn K (.ref C) "__eq__" = some (some (.ref f))) (hf : PySem.W.isFn K (.ref f) = true)
    (hn : PySem.W.findIn K (.ref C) "__ne__" = some (some (.builtin "object.__ne__"))) (hm : PySem.W.mroIn K C (.type "object") = some true)
    (hq : wpAny (model prog w) A.in1 (call (.ref f) [.ref x, v]) (fun v s' => ∃ b, v = .bool b ∧ Q (.bool (!b)) s') E st) : wpAny (model prog w) A (richCompare .NotEq (.ref x) v) Q E st := by
  have one : wpAny (model prog w) A (tryCompare (.ref x) "__ne__" v) (fun r s' => ∃ v, r = some v ∧ Q v s') E st := by
    unfold tryCompare
    refine wpAny_bind (bound_ne kin I hn (wpAny_call (codeAny_call_builtin F.cmp_object.ne.plain F.cmpEntry_ne (PySem.W.check_slot F.cmpKind_ne F.cmpSplit_ne (I.type.andThen (PySem.W.looks_mroIn kin hm)) (F.cmpArgs_ne _ _) (entry_ne (A := A.in1) hu kin I he hf (wpAny_mono hq (fun v s' hv => ?_) fun _ _ e => e))))))
    obtain ⟨b, rfl, q⟩ := hv
    first | exact ⟨b, rfl, wpAny_pure ⟨_, rfl, q⟩⟩ | exact ⟨b, rfl, ⟨_, rfl, q⟩⟩
  simp only [richCompare, cmpInfo_NotEq, oneThing_ref]
  refine wpAny_holding (wpAny_bind (wpAny_cRoomFor (Nat.lt_of_succ_lt hu) ?_))
  refine wpAny_bind (I.type.here (wpAny_bind (J.here ?_)))
  split
  · rename_i q
    have e : PySem.W.subIn K tb (.ref C) = some false := by
      rcases Bool.or_eq_true_iff.mp hfst with e | e
      · rw [beq_iff_eq.mp e] at q; simp at q
      · exact beq_iff_eq.mp e
    refine wpAny_bind ((PySem.W.looks_subIn kin e).here ?_)
    simp only [Bool.false_eq_true, if_false]
    refine wpAny_bind (wpAny_mono one (fun r s' hr => ?_) fun _ _ e => e)
    obtain ⟨v, rfl, q⟩ := hr
    exact wpAny_pure q
  · refine wpAny_bind (wpAny_pure ?_)
    simp only [Bool.false_eq_true, if_false]
    refine wpAny_bind (wpAny_mono one (fun r s' hr => ?_) fun _ _ e => e)
    obtain ⟨v, rfl, q⟩ := hr
    exact wpAny_pure q
end
end OwnCmp
end PySem
end

section
set_option Elab.async false
set_option linter.all false
set_option maxRecDepth 100000
/-! PyR2: str of an instance by its own __str__; all that the layer lacks. -/
namespace PI
open PySem PySem.Spec PyProof PyProof.Rows L2 TL
/-- the classes' own __str__ -/
def Sts (X : Cx) (ca : Nat → Addr) (xn : Xn) (g : G) (k : Nat) : Prop := ∀ (c : Nat) (f : Nat), (g.pg.cs c).bind (·.strm) = some f → ∃ (a : Addr) (fd : FuncData) (ps : List Str), PySem.W.findIn X.K (.ref (ca c)) "__str__" = some (some (.ref a)) ∧ PySem.W.isFn X.K (.ref a) = true ∧
  FnG X.prog X.w X.K X.mg X.base k a fd ps (SpI X.K ca xn (g.call f) ps.length) ∧ Binds X.K fd ps [] ∧ Few (g.call f) ps.length
theorem call_strI {X : Cx} {ca : Nat → Addr} {xn : Xn} {g : G} {k : Nat} (S : Sts X ca xn g k) (hr : Room (k + 2) X.A) (hg : X.A.guards = some []) : CallR X (.type "str") (rStrI ca xn g X.K) := by
  intro pins sh sg H xs us Q I r h
  obtain ⟨i, a, c, f, fs, rho, s, rfl, R, gi, e, hs, q⟩ := h
  obtain ⟨u, rfl, rx⟩ := vals1 r
  cases rx
  obtain ⟨fa, fd, ps, h1, h2, F, hb, fw⟩ := S c f hs
  obtain ⟨dx, gs, k1, k2, k3, k4⟩ := R.at_ i _ a e gi
  obtain ⟨mA, O, _⟩ := ins_get I.hok k1
  obtain ⟨od, J, _⟩ := O.look
  have r2 : Room k X.A.in1.in1 := (hr.in1).in1
  have un : X.A.in1.in1.units < cLine := r2.units0
  refine PySem.W.kso_call (Q := EP X pins sg Q) un I.kIn J h1 h2 ?_
  have sp : SpI X.K ca xn (g.call f) ps.length [.ref a] H (fun w H' => ∃ z, w = .str z ∧ Q w H') (fun _ _ _ => False) := spi_of fw R (VRs.one (x := .ref i) (by simp only [VR]; exact ⟨a, rfl, gi⟩)) q
  have hl : ([Value.ref a] ++ []).length = ps.length := by
    rw [List.append_nil]
    exact F.len _ _ _ _ sp
  have hb' := hb sh [.ref a] I.kIn hl
  rw [List.append_nil] at hb'
  refine wpAny_call (codeAny_mono (F.run X.A.in1.in1 X.stack sh H ⟨[.ref a], []⟩ [.ref a] [.ref a] _ _ r2 hg I.env0.in1.in1 hb' (.cons rfl .nil) sp) fun res s2 hq => ?_)
  cases res with
  | error e => obtain ⟨_, _, _, _, _, _, _, _, _, _, _, _, z⟩ := hq; exact z.elim
  | ok fl =>
    cases fl with
    | ret u =>
      obtain ⟨v, H', I3, rv, z, ev, q3⟩ := I.after hq
      subst ev
      obtain ⟨t, rfl⟩ := rv
      exact ⟨.str z, H', I3, ⟨t, rfl⟩, q3⟩
    | next => exact hq.elim
    | brk => exact hq.elim
    | cont => exact hq.elim
/-! what a value's type is, beside an instance -/
theorem mro_no {T : String} {l : List Value} (C : Addr) (h : fastBuiltinMro T = some l) (hl : l.all (fun v => match v with | .ref _ => false | _ => true) = true) (K : PySem.W.Frag) : PySem.W.notFirst K C (.type T) = true := by
  have e : PySem.W.subIn K (.type T) (.ref C) = some false := by
    unfold PySem.W.subIn
    simp only [h, Option.map_some, Option.some.injEq]
    rw [Bool.eq_false_iff]
    intro m
    have m : Value.ref C ∈ l := by simpa using m
    have := List.all_eq_true.mp hl _ m
    simp at this
  unfold PySem.W.notFirst
  rw [e]
  simp
theorem not_first (C : Addr) (K : PySem.W.Frag) : ∀ T ∈ ["NoneType", "bool", "int", "str", "tuple", "list", "dict"], PySem.W.notFirst K C (.type T) = true := by
  have k : ∀ T ∈ ["NoneType", "bool", "int", "str", "tuple", "list", "dict"], (fastBuiltinMro T).any (fun l => l.all (fun v => match v with | .ref _ => false | _ => true)) = true := by decide +kernel
  intro T m
  have := k T m
  cases e : fastBuiltinMro T with
  | none => rw [e] at this; cases this
  | some l => rw [e] at this; exact mro_no C e (by simpa using this) K
theorem looks_ref {M : Model} {h : Heap} {a : Addr} {o : Obj} (e : h.get? a = some o) : PySem.W.Looks M h (typeOf (.ref a)) o.cls := fun A Q E s k q => wpAny_typeOf_ref (k _ _ e) q
theorem oth_ty {X : Cx} {ca : Nat → Addr} {pins : List (Addr × Obj)} {sg : L2.St} {H : Hp} {s : Shared} {rho : List Addr} {st : S} {c : Nat} {vb : Val} {y : V} {u : Value} (I : Inv X pins sg H s) (R : RelS X.K ca rho st H) (r : VR X.K ca rho H vb y) (h : othB st c vb = true) (ry : RelV y u) :
    ∃ tb, PySem.W.Looks (model X.prog X.w) s.heap (typeOf u) tb ∧ PySem.W.notFirst X.K (ca c) tb = true := by
  have N := not_first (ca c) X.K
  cases vb with
  | non => cases r.non_of; cases ry; exact ⟨_, PySem.W.Looks.of_pure rfl, N "NoneType" (by simp)⟩
  | bl b => cases r.bl_of; cases ry; exact ⟨_, PySem.W.Looks.of_pure rfl, N "bool" (by simp)⟩
  | int b => cases r.int_of; obtain ⟨t, rfl⟩ := ry; exact ⟨_, PySem.W.Looks.of_pure rfl, N "int" (by simp)⟩
  | str b => obtain ⟨rfl, _⟩ := r.str_of; obtain ⟨t, rfl⟩ := ry; exact ⟨_, PySem.W.Looks.of_pure rfl, N "str" (by simp)⟩
  | tup b =>
    obtain ⟨a, vs, rfl, q, _⟩ := r.tup_of
    cases ry
    obtain ⟨its, _, ⟨o, ho, hc, _⟩, _⟩ := I.tuple q.sq
    exact ⟨_, looks_ref ho, by rw [hc]; exact N "tuple" (by simp)⟩
  | lst b => simp [othB, insOf, forB] at h
  | dct b =>
    obtain ⟨a, o, rfl, q⟩ := r.dct_of
    cases ry
    obtain ⟨ho, _, _, vs, _, od, es, ep, h1, hx, _⟩ := I.hok _ _ q
    exact ⟨_, looks_ref h1, by rw [hx.1]; exact N "dict" (by simp)⟩
  | ref j =>
    obtain ⟨a, rfl, g⟩ := r.ref_of
    cases ry
    cases e : st.st[j]? with
    | none => simp [othB, insOf, forB, e] at h
    | some ob =>
      cases ob with
      | lst xs =>
        obtain ⟨vs, h1, _⟩ := R.at_ j _ a e g
        obtain ⟨its, _, ⟨o, n, ho, hc, _⟩, _⟩ := I.list (SqL.of h1)
        exact ⟨_, looks_ref ho, by rw [hc]; exact N "list" (by simp)⟩
      | ins c2 fs =>
        have e2 : insOf st (.ref j) = some (c2, fs) := by unfold insOf; simp [e]
        have hc : c2 = c := by
          unfold othB at h
          rw [e2] at h
          exact of_decide_eq_true h
        subst hc
        obtain ⟨dx, us, m1, _⟩ := R.at_ j _ a e g
        obtain ⟨mA, O, _⟩ := ins_get I.hok m1
        obtain ⟨od, J, _⟩ := O.look
        exact ⟨_, J.type, by simp [PySem.W.notFirst]⟩
/-- the classes' own __eq__ -/
def Eqs (X : Cx) (ca : Nat → Addr) (xn : Xn) (g : G) (k : Nat) : Prop := ∀ (c : Nat) (f : Nat), (g.pg.cs c).bind (·.eqm) = some f → ∃ (a : Addr) (fd : FuncData) (ps : List Str), PySem.W.findIn X.K (.ref (ca c)) "__eq__" = some (some (.ref a)) ∧ PySem.W.isFn X.K (.ref a) = true ∧
  PySem.W.findIn X.K (.ref (ca c)) "__ne__" = some (some (.builtin "object.__ne__")) ∧ PySem.W.mroIn X.K (ca c) (.type "object") = some true ∧
  FnG X.prog X.w X.K X.mg X.base k a fd ps (SpI X.K ca xn (g.call f) ps.length) ∧ Binds X.K fd ps [] ∧ Few (g.call f) ps.length
section
variable {X : Cx} {ca : Nat → Addr} {xn : Xn} {g : G} {k : Nat}
theorem own_call (S : Eqs X ca xn g k) {A : Around} (hr : Room k A) (hg : A.guards = some []) {pins : List (Addr × Obj)} {s : Shared} {sg : L2.St} {H : Hp} (I : Inv X pins sg H s) (e0 : Env0 X.prog X.w X.K X.mg X.base A X.stack s H) {neg : Bool} {x y : V} {u : Value} {Q : VK} (h : rOwn ca xn g X.K neg x y H Q) (ry : RelV y u) :
    ∃ (a C fa : Addr) (oa : Obj) (da : Option Obj), x = .ref a ∧ PySem.W.InstAt s.heap a oa C da ∧ (∃ tb, PySem.W.Looks (model X.prog X.w) s.heap (typeOf u) tb ∧ PySem.W.notFirst X.K C tb = true) ∧ PySem.W.findIn X.K (.ref C) "__eq__" = some (some (.ref fa)) ∧ PySem.W.isFn X.K (.ref fa) = true ∧
      PySem.W.findIn X.K (.ref C) "__ne__" = some (some (.builtin "object.__ne__")) ∧ PySem.W.mroIn X.K C (.type "object") = some true ∧
      wpAny (model X.prog X.w) A (call (.ref fa) [.ref a, u]) (fun v s' => ∃ b, v = .bool b ∧ EP X pins sg Q (.bool (if neg then !b else b)) s') X.xe s := by
  obtain ⟨i, vb, a, c, f, fs, rho, st, rfl, R, g1, g2, k1, k2, hf, q⟩ := h
  obtain ⟨fa, fd, ps, h1, h2, h3, h4, F, hb, fw⟩ := S c f hf
  obtain ⟨dx, us, m1, _, _, _⟩ := R.at_ i _ a k1 g1
  obtain ⟨mA, O, _⟩ := ins_get I.hok m1
  obtain ⟨od, J, _⟩ := O.look
  refine ⟨a, ca c, fa, _, od, rfl, J, oth_ty I R g2 k2 ry, h1, h2, h3, h4, ?_⟩
  have sp : SpI X.K ca xn (g.call f) ps.length [.ref a, y] H (fun w H' => ∃ z : Bool, w = .bl z ∧ Q (.bl (if neg then !z else z)) H') (fun _ _ _ => False) := spi_of fw R (VRs.cons_iff.mpr ⟨_, _, rfl, (show VR _ _ _ _ (.ref i) (.ref a) by simp only [VR]; exact ⟨a, rfl, g1⟩), VRs.one g2⟩) (q.imp fun v rho1 s1 H1 x1 R1 z => by
    obtain ⟨kk, rfl, z⟩ := z
    intro w hw
    simp only [VR] at hw
    exact ⟨kk, hw, z⟩)
  have hl : ([Value.ref a, u] ++ []).length = ps.length := by
    rw [List.append_nil]
    exact F.len _ _ _ _ sp
  have hb' := hb s [.ref a, u] I.kIn hl
  rw [List.append_nil] at hb'
  refine wpAny_call (codeAny_mono (F.run A X.stack s H ⟨[.ref a, u], []⟩ [.ref a, u] [.ref a, y] _ _ hr hg e0 hb' (.cons rfl (.cons ry .nil)) sp) fun res s2 hq => ?_)
  cases res with
  | error e => obtain ⟨_, _, _, _, _, _, _, _, _, _, _, _, z⟩ := hq; exact z.elim
  | ok fl =>
    cases fl with
    | ret u =>
      obtain ⟨v, H', I3, rv, z, ev, q3⟩ := I.after hq
      subst ev
      cases rv
      exact ⟨z, rfl, .bl (if neg then !z else z), H', I3, by simp only [L2.RelV], q3⟩
    | next => exact hq.elim
    | brk => exact hq.elim
    | cont => exact hq.elim
theorem op_ownEq (S : Eqs X ca xn g k) (hr : Room (k + 1) X.A) (hg : X.A.guards = some []) : OpR X (compareOp .Eq) (rOwn ca xn g X.K false) := by
  intro pins s sg H x y u v Q I rx ry h
  obtain ⟨a, C, fa, oa, da, rfl, J, ⟨tb, J2, nf⟩, h1, h2, _, _, hc⟩ := own_call S (hr.mono (Nat.le_succ k)) hg I I.env0 h ry
  cases rx
  obtain ⟨m, hF⟩ := I.fr
  refine PySem.W.cmp_K (op := .Eq) (tb := tb) hr.units0 hF I.ok.mod.kin J J2 nf h1 h2 (wpAny_mono hc (fun w s' hw => ?_) fun _ _ e => e)
  obtain ⟨z, rfl, q⟩ := hw
  exact q
theorem op_ownNe (S : Eqs X ca xn g k) (hr : Room (k + 1) X.A) (hg : X.A.guards = some []) : OpR X (compareOp .NotEq) (rOwn ca xn g X.K true) := by
  intro pins s sg H x y u v Q I rx ry h
  obtain ⟨a, C, fa, oa, da, rfl, J, ⟨tb, J2, nf⟩, h1, h2, h3, h4, hc⟩ := own_call S hr.in1 hg I I.env0.in1 h ry
  cases rx
  exact PySem.OwnCmp.rich_ne hr.in1.units0 I.kIn J J2 nf h1 h2 h3 h4 hc
end
theorem more_of {X : Cx} {ca : Nat → Addr} {xn : Xn} {g : G} {k : Nat} (hc : X.calm = true) (S : Sts X ca xn g k) (T : Eqs X ca xn g k) (hk : (X.K.lookup sysModules).isSome = true) (hr : Room (k + 2) X.A) (hg : X.A.guards = some []) : More X ca xn g := by
  have hu : X.A.units + 65 < cLine := by
    have := hr.un
    simp only [cLine] at *
    omega
  have r1 : Room (k + 1) X.A := hr.mono (Nat.le_succ _)
  exact ⟨call_repr hk hg hu, call_lstS hc, call_strI S hr hg, cp_of hu (op_ownEq T r1 hg) (op_ownNe T r1 hg)⟩
end PI
end

section
set_option Elab.async false
set_option linter.all false
set_option maxRecDepth 100000
set_option maxHeartbeats 2000000
/-! PyR4: a set of texts is filled. The step for a text that is new is Froz.add_x; what is ours: a text that is there already, the table's order, the loop. -/
namespace TxSet
open PySem PySem.Spec PyProof.Rows L2
open PySem.Froz (SD sObj addTx tailTx TxOk)
/-- the table is in order -/
def InOrder (w : World) (D : SD) : Prop := Ris D.2.2.place.toList ∧ (w.params.followText "set-order" = true ∨ D.2.2.led = true)
theorem InOrder.tail {w : World} {ep : Nat} {es : Array (Int × Value)} {t : SetTable} {b : Bool} (o : InOrder w (es, ep, t)) : InOrder w (tailTx ep es t b) := by
  unfold tailTx
  split
  · exact ⟨relayAll_ris _ _ _, o.2.imp id fun l => by rw [show _ = t.led from relayAll_led t es _]; exact l⟩
  · exact o
theorem InOrder.add {w : World} {D : SD} (o : InOrder w D) (h : Int) (v : Value) : InOrder w (addTx h v D) := by
  obtain ⟨es, ep, t⟩ := D
  have r : Ris (layNew t es h v).2.1.place.toList := layNew_ris t es h v o.1
  have l : w.params.followText "set-order" = true ∨ (layNew t es h v).2.1.led = true := o.2.imp id fun l => by rw [layNew_led]; exact l
  refine InOrder.tail ?_
  split
  · exact ⟨r, l⟩
  · exact ⟨r, l⟩
/-- the set at a holds the texts l, the last one first -/
def Holds (P : Program) (w : World) (hp : Heap) (a : Addr) (l : List Str) : Prop := ∃ D, hp.get? a = some (sObj "set" D) ∧ TxOk P w D l ∧ l.Nodup ∧ InOrder w D
def ins (l : List Str) (k : Str) : List Str := if k ∈ l then l else k :: l
theorem ins_len (l : List Str) (k : Str) : (ins l k).length ≤ l.length + 1 := by
  unfold ins
  split
  · exact Nat.le_succ _
  · exact Nat.le_refl _
theorem ins_mem {l : List Str} {k z : Str} : z ∈ ins l k ↔ z ∈ l ∨ z = k := by
  unfold ins
  split
  · rename_i h
    exact ⟨.inl, fun q => q.elim id fun e => e ▸ h⟩
  · rw [List.mem_cons, or_comm]
theorem fold_mem {z : Str} : ∀ {xs l : List Str}, z ∈ xs.foldl ins l ↔ z ∈ l ∨ z ∈ xs
  | [], l => by simp
  | x :: r, l => by rw [List.foldl_cons, fold_mem, ins_mem, List.mem_cons, or_assoc]
theorem fold_len : ∀ {xs l : List Str}, (xs.foldl ins l).length ≤ l.length + xs.length
  | [], l => Nat.le_refl _
  | x :: r, l => by
    have h1 := fold_len (xs := r) (l := ins l x)
    have h2 := ins_len l x
    simp only [List.foldl_cons, List.length_cons]
    omega
section
variable {P : Program} {w : World} {A : Around} {E : Value → Shared → Prop} {sh : Shared} {a : Addr} {l : List Str}
theorem Holds.keep {h h2 : Heap} (S : Holds P w h a l) (k : ∀ o, h.get? a = some o → h2.get? a = some o) : Holds P w h2 a l := S.elim fun D q => ⟨D, k _ q.1, q.2⟩
/-- found.add(text) -/
theorem add_text {k : Str} {u : Tok} {Q : Bool → Shared → Prop} (S : Holds P w sh.heap a l) (room : l.length + 1 < scanBound)
    (q : ∀ b h2, Heap.SameBut a sh.heap h2 → Holds P w h2 a (ins l k) → Q b { sh with heap := h2 }) : wpAny (model P w) A (setAddHashed a (.str k u) ((strKind P w).hash k)) Q E sh := by
  obtain ⟨D, at_, ok, nd, ord⟩ := S
  by_cases there : k ∈ l
  · have same : ins l k = l := if_pos there
    obtain ⟨es, ep, t⟩ := D
    obtain ⟨e, he, hk⟩ := (ok.mem k).mp there
    have few : es.size < scanBound := by have := ok.sz; simp only at this; omega
    unfold setAddHashed setAddHashedIn
    refine wpAny_holding (wpAny_bind (wpAny_setState_of at_ rfl ok.fit ?_))
    simp only
    rw [byScan_of (knd := strKind P w) rfl few ok.el, if_pos rfl]
    unfold setAddByScan
    refine wpAny_bind (wpAny_bind (wpAny_rule (wpAny_bind (wpAny_setScan_of (knd := strKind P w) (Froz.is_str k u) at_ rfl ok.fit ok.el ?_))))
    cases f : es.toList.findIdx? (fun e => (strKind P w).is k e.2) with
    | none => exact absurd hk (by rw [List.findIdx?_eq_none_iff.mp f e he]; decide)
    | some j => exact wpAny_pure (wpAny_pure (q false sh.heap (Heap.SameBut.refl a _) ⟨_, at_, by rw [same]; exact ok, by rw [same]; exact nd, ord⟩))
  · have new : ins l k = k :: l := if_neg there
    exact Froz.add_x at_ ok there room (q true _ (Heap.SameBut.update _ a _) ⟨_, Froz.get_upd _ at_ rfl, by rw [new]; exact Froz.add_ok u ok, by rw [new]; exact List.nodup_cons.mpr ⟨there, nd⟩, ord.add _ _⟩)
end
section
variable {P : Program} {w : World} {A : Around} {Rz : Result → Shared → Prop} {I : Addr} {fp wr : List Addr} {G : Array GenState → Array GenState → Prop} {n : Nat} {Pv : Nat → Value → Prop} {St : Nat → Shared → Prop}
/-- the rest of the items goes in -/
theorem fill (W : WalksS P w A.in1 I fp wr G n Pv St) (D : Addr) (apart : D ∉ fp) (xs : List Str) (hn : xs.length = n) (few : n < 64) (texts : ∀ i v, Pv i v → ∃ u, v = .str (xs.getD i Str.empty) u) :
    ∀ (rest : List Str) (i : Nat) (l : List Str) (sh : Shared), rest = xs.drop i → i ≤ n → l.length ≤ i → St i sh → Holds P w sh.heap D l →
      (∀ sz, Moved (D :: wr) G sh sz → Holds P w sz.heap D (rest.foldl ins l) → Rz (.ok (.ret .none)) sz) → codeAny (model P w) A (.builtin "set.update.loop" ⟨[.ref D, .ref I], []⟩) Rz sh := by
  have dw : D ∉ wr := fun m => apart (W.sub D m)
  have more : ∀ b ∈ wr, b ∈ D :: wr := fun b => List.mem_cons_of_mem D
  intro rest
  induction rest with
  | nil =>
    intro i l sh hr hi hl st S fin
    have e : i = n := by
      have := congrArg List.length hr
      rw [List.length_nil, List.length_drop] at this
      omega
    subst e
    refine codeAny_builtin PyProof.Rows.F.entry_set_update_loop ?_
    rw [Around.under_plainId PyProof.Rows.F.plain_set_update_loop]
    exact wpAny_bind (W.done sh _ _ st fun sz mv => wpAny_pure (fin sz (mv.mono more) (S.keep fun o => mv.heap D o dw)))
  | cons x r ih =>
    intro i l sh hr hi hl st S fin
    have lt : i < n := by
      have := congrArg List.length hr
      rw [List.length_cons, List.length_drop] at this
      omega
    have hx : xs.getD i Str.empty = x := by
      rw [List.getD_eq_getElem?_getD, ← List.head?_drop, ← hr]
      rfl
    have hr2 : r = xs.drop (i + 1) := by
      have := congrArg List.tail hr
      rwa [List.tail_cons, List.tail_drop] at this
    refine codeAny_builtin PyProof.Rows.F.entry_set_update_loop ?_
    rw [Around.under_plainId PyProof.Rows.F.plain_set_update_loop]
    refine wpAny_bind (W.item i sh _ _ lt st fun v s1 pv st1 mv => ?_)
    obtain ⟨u, rfl⟩ := texts i v pv
    rw [hx]
    have go : wpAny (model P w) A.in1 (setAdd D (.str x u)) (fun _ s3 => St (i + 1) s3 ∧ Holds P w s3.heap D (ins l x) ∧ Moved (D :: wr) G sh s3) (fun e s => Rz (.error e) s) s1 := by
      unfold setAdd
      refine wpAny_holding (wpAny_bind ((strKind P w).pyHash (Froz.is_str x u) (add_text (sh := { s1 with toks := s1.toks + 1 }) (S.keep fun o => mv.heap D o dw) (by unfold scanBound; omega) fun b h2 sb S2 => ?_)))
      have ne : ∀ {b}, b ≠ D → h2.get? b = s1.heap.get? b := fun {b} hb => sb.2 b hb
      exact ⟨W.frame _ s1 h2 _ st1 (Nat.le_succ _) fun b hb o ho => (ne fun e => apart (e ▸ hb)).trans ho, S2,
        (mv.mono more).then_heap (Nat.le_succ _) fun b o hb ho => (ne fun e => hb (e ▸ List.mem_cons_self)).trans ho⟩
    refine wpAny_bind (wpAny_holding (wpAny_mono go (fun _ s3 q => ?_) fun _ _ q => q))
    refine wpAny_pure ⟨plainId_quiet PyProof.Rows.F.plain_set_update_loop _, ih (i + 1) (ins l x) s3 hr2 lt (Nat.le_trans (ins_len l x) (Nat.succ_le_succ hl)) q.1 q.2.1 fun sz mz S3 => fin sz (Moved.trans W.gtrans q.2.2 mz) S3⟩
end
end TxSet
end

section
set_option Elab.async false
set_option linter.all false
set_option maxRecDepth 100000
set_option maxHeartbeats 3200000
/-! PyR5: set(texts), by the library's rule for a type's call; sorted of such a set. -/
namespace TxSet
open PySem PySem.Spec PyProof.Rows L2
open PySem.Froz (SD sObj TxOk)
def bare (w : World) : Obj := { cls := .type "set", dict := none, data := .set #[] 0 (.fresh 0 0 (!w.params.followText "set-order")) }
theorem holds_bare {P : Program} {w : World} {hp : Heap} {a : Addr} (h : hp.get? a = some (bare w)) : Holds P w hp a [] := by
  refine ⟨(#[], 0, .fresh 0 0 (!w.params.followText "set-order")), h, TxOk.nil rfl, List.Pairwise.nil, List.Pairwise.nil, ?_⟩
  cases w.params.followText "set-order"
  · exact .inr rfl
  · exact .inl rfl
section
variable {P : Program} {w : World} {A : Around} {E : Value → Shared → Prop} {sh : Shared}
/-- set(x), by what __init__ does of a bare set -/
theorem set_call {x : Value} {Q : Value → Shared → Prop}
    (body : ∀ N, N = sh.heap.objs.size → wpAny (model P w) A.in1.in1 (Builtin.«set.__init__» ⟨[.ref N, x], []⟩)
      (fun end_ s2 => match end_ with
        | .done v => wants (fun r s3 => r = .none ∧ Q (.ref N) s3) E (.ok v) s2
        | .again c => c.quiet = true ∧ codeAny (model P w) A.in1 c (wants (fun r s3 => r = .none ∧ Q (.ref N) s3) E) s2)
      (fun e s2 => wants (fun r s3 => r = .none ∧ Q (.ref N) s3) E (.error e) s2) { sh with heap := sh.heap.push (bare w) }) :
    wpAny (model P w) A (call (.type "set") [x]) Q E sh := by
  have C := F.called_set
  obtain ⟨m0, m1, mro⟩ := C.mro
  have made := C.made
  have sub := C.sub
  have noType := C.notType
  have canMake := C.canCreate
  have okCall := F.typeCall_set_1 x
  have init := C.init.lookup
  refine wpAny_call (codeAny_of_tree (show wpAny _ _ (callAny (.type "set") _) _ _ _ from wpAny_pure ⟨Code.quiet_builtin _ (by decide +kernel), codeAny_builtin F.entry_type_call ?_⟩))
  rw [Around.under_plain (weight_type_call_type "set" [x] []) rfl]
  repeat (any_goals (first | assumption | wp_step))
  refine codeAny_mono (code_set_led1 x (Q₁ := fun o s1 => o = .ref sh.heap.objs.size ∧ s1 = { sh with heap := sh.heap.push (bare w) }) (E := E) ⟨rfl, rfl⟩) fun r1 s1 q1 => ?_
  match r1, q1 with
  | .error _, q1 => exact q1
  | .ok (.ret o), q1 =>
    obtain ⟨rfl, rfl⟩ := q1
    have isSet : Shared.TypeIs { sh with heap := sh.heap.push (bare w) } (.ref sh.heap.objs.size) "set" := ⟨_, Heap.get?_push_size _ rfl, rfl⟩
    have bind := C.init.bind (.ref sh.heap.objs.size)
    repeat (any_goals (first | assumption | wp_step))
    refine codeAny_mono (codeAny_call_builtin (R := wants (fun r s3 => r = .none ∧ Q (.ref sh.heap.objs.size) s3) E) C.init.plain F.entry_set_init (check_set_init_1 isSet (body _ rfl))) fun r2 s2 q2 => ?_
    match r2, q2 with
    | .error _, q2 => exact q2
    | .ok (.ret v), q2 =>
      obtain ⟨rfl, q2⟩ := q2
      repeat (any_goals (first | assumption | wp_step))
/-- set(a list of texts) -/
theorem set_of_texts {b : Addr} {its : Array Value} {xs : List Str} {Q : Value → Shared → Prop} (calm : A.handled = none) (isl : sh.heap.IsList b its) (are : StrsAre its.toList xs) (few : xs.length < 64)
    (q : ∀ (h2 : Heap) (tz : Nat), Holds P w h2 sh.heap.objs.size (xs.foldl ins []) → (∀ c o, sh.heap.get? c = some o → h2.get? c = some o) → Q (.ref sh.heap.objs.size) { sh with heap := h2, toks := tz }) :
    wpAny (model P w) A (call (.type "set") [.ref b]) Q E sh := by
  have size : its.size = xs.length := by rw [← StrsAre.len_eq are, Array.length_toList]
  obtain ⟨N, hN⟩ : ∃ N, N = sh.heap.objs.size := ⟨_, rfl⟩
  have old : b < N := by obtain ⟨o, ho, _⟩ := isl; rw [hN]; exact Heap.lt_size ho
  refine set_call fun N0 hN0 => ?_
  rw [hN0.trans hN.symm]
  have at_ : (sh.heap.push (bare w)).get? N = some (bare w) := by rw [hN]; exact Heap.get?_push_size _ rfl
  have isl1 : (sh.heap.push (bare w)).IsList b its := isl.push _
  have size1 : (sh.heap.push (bare w)).objs.size = N + 1 := by rw [hN]; exact Heap.size_push ..
  have l1 := F.sub_list_set
  have l2 := F.sub_list_frozenset
  obtain ⟨⟨oc, od, oD, oS⟩, ho, hc, nl, he⟩ := isl1
  simp only at hc he
  subst hc he
  have isl2 : (sh.heap.push (bare w)).IsList b its := ⟨_, ho, rfl, nl, rfl⟩
  have neDict : (Value.type "list" == Value.type "dict") = false := by decide
  unfold Builtin.«set.__init__» noKeywords Builtin.Frozenset.updateFrom
  generalize hpi : pyIter = step
  wp_walk
  subst hpi
  refine wpAny_pyIter_list isl2 ?_
  refine wpAny_bind (wpAny_runValue ?_)
  have apart : N ∉ [(sh.heap.push (bare w)).objs.size, b] := by
    rw [size1]
    simp only [List.mem_cons, List.not_mem_nil, or_false, not_or]
    exact ⟨Nat.ne_of_lt (Nat.lt_succ_self N), Nat.ne_of_gt old⟩
  have away : b ≠ (sh.heap.push (bare w)).objs.size := by rw [size1]; exact Nat.ne_of_lt (Nat.lt_succ_of_lt old)
  refine fill (xs := xs) ((Walks.list (by simp [calm]) _ b away its).toS) N apart size.symm (by omega) (fun i v hv => SS.strs_at are i v (by rw [Array.getElem?_toList]; exact hv)) xs 0 [] _ rfl (Nat.zero_le _) (Nat.le_refl _) ⟨⟨_, Heap.get?_push_size _ rfl, rfl, rfl⟩, isl2.push _⟩ (holds_bare (Heap.get?_push_of_some _ at_)) fun sz mv S => ?_
  have e : sz = { sh with heap := sz.heap, toks := sz.toks } := by
    have e1 : sz.gens = sh.gens := mv.gens
    have e2 : sz.drawn = sh.drawn := mv.drawn
    have e3 : sz.os = sh.os := mv.os
    cases sz
    simp only at e1 e2 e3
    subst e1 e2 e3
    rfl
  have kept : ∀ c o, sh.heap.get? c = some o → sz.heap.get? c = some o := fun c o hco => by
    have lt : c < N := by rw [hN]; exact Heap.lt_size hco
    refine mv.heap c o (fun m => ?_) (Heap.get?_push_of_some _ (Heap.get?_push_of_some _ hco))
    rcases List.mem_cons.mp m with m | m
    · have m : c = N := m
      rw [m] at lt
      exact Nat.lt_irrefl _ lt
    · rw [List.mem_singleton.mp m, size1] at lt
      exact Nat.lt_irrefl _ (Nat.lt_of_succ_lt lt)
  have fin := q sz.heap sz.toks (by rw [← hN]; exact S) kept
  rw [← e, ← hN] at fin
  exact wpAny_pure (wpAny_pure ⟨rfl, fin⟩)
end
end TxSet
end

section
set_option Elab.async false
set_option linter.all false
set_option maxRecDepth 100000
/-! PyR6: sorted(a set of texts); sorted(set(..)) as an expression. -/
namespace TxSet
open PySem PySem.Spec PyProof.Rows L2
open PySem.Froz (TxOk)
/-- the text of a value -/
def textOf : Value → Str
  | .str k _ => k
  | _ => Str.empty
theorem text_of_is {P : Program} {w : World} {k : Str} {v : Value} (h : (strKind P w).is k v = true) : ∃ u, v = .str k u := by
  have g : Value.isStrOf k v = true := h
  clear h
  cases v <;> simp [Value.isStrOf] at g
  rename_i z u
  exact ⟨u, by rw [g]⟩
theorem are_texts : ∀ {vs : List Value}, (∀ v ∈ vs, ∃ k u, v = .str k u) → StrsAre vs (vs.map textOf)
  | [], _ => .nil
  | v :: r, h => by
    obtain ⟨k, u, rfl⟩ := h v (List.mem_cons_self ..)
    exact .cons k u (are_texts fun y m => h y (List.mem_cons_of_mem _ m))
theorem perm_of_len {α : Type} [DecidableEq α] : ∀ {xs ys : List α}, xs.Nodup → (∀ x ∈ xs, x ∈ ys) → ys.length ≤ xs.length → xs.Perm ys
  | [], ys, _, _, h => by rw [List.length_eq_zero_iff.mp (Nat.le_zero.mp h)]
  | x :: r, ys, nd, sub, h => by
    have hx := sub x (List.mem_cons_self ..)
    obtain ⟨n1, n2⟩ := List.nodup_cons.mp nd
    refine (List.Perm.cons x (perm_of_len n2 (fun y hy => (List.mem_erase_of_ne fun e : y = x => n1 (by rw [← e]; exact hy)).mpr (sub y (List.mem_cons_of_mem _ hy))) ?_)).trans (List.perm_cons_erase hx).symm
    have := List.length_pos_of_mem hx
    rw [List.length_erase_of_mem hx]
    simp only [List.length_cons] at h
    omega
section
variable {P : Program} {w : World} {A : Around} {E : Value → Shared → Prop} {sh : Shared}
/-- xs.sort() of a list of fewer than 64 texts: a list at the place again, the old objects as they were -/
theorem sort_texts {b : Addr} {vs : List Value} {ks : List Str} {Q : Value → Shared → Prop} (at_ : sh.heap.get? b = some (seqObj "list" vs.toArray 0)) (are : StrsAre vs ks) (few : vs.length < 64)
    (q : ∀ (h2 : Heap) (out : Array Value) (c : Nat) (ss : List Str), (∀ x, x ≠ b → x < sh.heap.objs.size → h2.get? x = sh.heap.get? x) → h2.get? b = some (seqObj "list" out c) → StrsAre out.toList ss → ss.Perm ks → sortedS ss = true → Q .none { sh with heap := h2 }) :
    wpAny (model P w) A (call (.builtin "list.sort") [.ref b]) Q E sh := by
  refine wpAny_call_entry slot_list_sort ⟨_, at_, rfl⟩ entry_list_sort (list_sort_treeK strKind_oneLt at_ are.keysOf (fun _ _ _ e => keyKind_strs (by rw [← e]; exact are)) few fun z perm srt => ⟨_, rfl, ?_⟩) (args_list_sort _)
  obtain ⟨ss, s1, s2, s3⟩ := sorted_out_str are perm srt
  obtain ⟨c, hc⟩ := sortedHeap_at (vs := vs) (out := (arrOf z).map (·.2)) at_
  exact q _ _ c ss (fun x ne lt => sortedHeap_old ne lt) hc s1 s2 s3
/-- sorted(a set of texts) -/
theorem sorted_texts {a : Addr} {l : List Str} {Q : Value → Shared → Prop} (S : Holds P w sh.heap a l) (calm : A.handled = none) (few : l.length < 64)
    (q : ∀ sz p (out : Array Value) (c : Nat) (ss : List Str), (∀ x o, sh.heap.get? x = some o → sz.heap.get? x = some o) → sz.gens = sh.gens → sz.os = sh.os → sh.heap.objs.size ≤ p →
      sz.heap.get? p = some (seqObj "list" out c) → StrsAre out.toList ss → ss.Perm l → sortedS ss = true → Q (.ref p) sz) :
    wpAny (model P w) A (call (.builtin "sorted") [.ref a]) Q E sh := by
  obtain ⟨D, at_, ok, nd, ord⟩ := S
  have esz : D.1.size < 64 := by rw [ok.sz]; exact few
  -- what stands in the table is the texts, in some order
  have vals : ∀ e ∈ D.1.toList, ∃ k u, e.2 = .str k u := fun e he => by
    obtain ⟨⟨k, hk, _⟩, _⟩ := ok.el e he
    exact (text_of_is hk).elim fun u hu => ⟨k, u, hu⟩
  have tab : l.Perm ((D.1.toList.map (·.2)).map textOf) := by
    refine perm_of_len nd (fun k hk => ?_) (by rw [List.length_map, List.length_map, Array.length_toList, ok.sz]; exact Nat.le_refl _)
    obtain ⟨e, he, his⟩ := (ok.mem k).mp hk
    obtain ⟨u, hu⟩ := text_of_is his
    exact List.mem_map.mpr ⟨e.2, List.mem_map_of_mem he, by rw [hu]; rfl⟩
  refine Calls.call_function_entry kind_sorted plain_sorted entry_sorted (args_sorted1 _) ?_
  unfold Builtin.«sorted»
  refine wpAny_bind (m := checkCount "sorted" 1 1 _) (wpAny_pure ?_)
  refine wpAny_bind (collect_set (A := A.in1) calm ⟨_, at_, rfl, rfl⟩ ok.fit (by unfold scanBound; omega) ord.1 ord.2 fun s1 vs keep grow sg so pm => ?_)
  have len : vs.length < 64 := by rw [pm.length_eq, List.length_map, Array.length_toList]; exact esz
  have are := are_texts (vs := vs) fun v hv => by
    obtain ⟨e, he, rfl⟩ := List.mem_map.mp (pm.mem_iff.mp hv)
    exact vals e he
  refine wpAny_bind (wpAny_newList ?_ (by rw [sizeLine_eq]; omega))
  refine wpAny_bind (wpAny_holding (sort_texts (sh := { s1 with heap := s1.heap.push (seqObj "list" vs.toArray 0) }) (Heap.get?_push_size _ rfl) are len fun h2 out c ss old new souts perm srt => ?_))
  refine wpAny_pure ⟨_, rfl, q _ _ out c ss (fun x o ho => ?_) sg so grow new souts (perm.trans ((pm.map textOf).trans tab.symm)) srt⟩
  have lt := Heap.lt_size (keep x o ho)
  refine (old x (Nat.ne_of_lt lt) ?_).trans (Heap.get?_push_of_some _ (keep x o ho))
  rw [show (s1.heap.push (seqObj "list" vs.toArray 0)).objs.size = s1.heap.objs.size + 1 from Heap.size_push ..]
  exact Nat.lt_succ_of_lt lt
end
end TxSet
namespace PI
open PySem PySem.Spec PyProof PyProof.Rows L2 TL
section
variable {X : Cx}
theorem pe_sset {a : Expr} {ta : TA} {p p2 q pos : Pos} (hc : X.calm = true) (hg : Gl X "sorted") (hm : X.mg "sorted" = none) (hg2 : Gl X "set") (hm2 : X.mg "set" = none) (ha : PA X [a] ta)
    (na : starEach [a] X.env = (false, eval a X.env) :: starEach [] X.env) : PE X (.Call (.Name "sorted" p) [.Call (.Name "set" p2) [a] [] q] [] pos) (fun sg H Q => ta sg H fun vs H1 => rSset X.K vs H1 Q) := by
  refine ⟨fun pins s sg H Q I h => ?_⟩
  refine Call_ (ld_blt I hg hm boot_sorted ?_)
  refine PyProof.Rows.callWith_builtin1 (PyProof.Rows.args_cons ?_ rfl) rfl rfl
  refine Call_ (ld_blt I hg2 hm2 boot_set ?_)
  refine PyProof.Rows.callWith_type1 (thn (ha.run q pins s sg H _ I h) fun us s1 ⟨vs, H1, I1, r1, q1⟩ => ?_) na rfl
  obtain ⟨l, xs, rfl, hq, h64, q1⟩ := q1
  rw [Vals.ref1 r1]
  obtain ⟨its, rv, pl, hz⟩ := I1.list hq
  refine TxSet.set_of_texts (xs := xs) (I1.ok.hd hc) pl.isList (by simpa using strsAre_of rv) h64 fun h2 tk S hk => ?_
  have I2 : Inv X pins sg H1 { s1 with heap := h2, toks := tk } := I1.kept hk
  have few : (xs.foldl TxSet.ins []).length < 64 := Nat.lt_of_le_of_lt TxSet.fold_len (by simpa using h64)
  refine PyProof.Rows.args_nil ?_
  refine TxSet.sorted_texts S (I1.ok.hd hc) few fun sz pz out c ss k gg oo hp hgt hi hpm hs => ?_
  have hd : ss.Nodup := S.elim fun _ z => hpm.nodup_iff.mpr z.2.2.1
  have hlen : (ss.map V.str).length ≤ sizeLine := by rw [List.length_map, hpm.length_eq, sizeLine_eq]; omega
  have hn : H1 pz = none := I2.hok.fresh hp
  have ob : ObjOk X.prog X.w (upd H1 pz (.lst (ss.map V.str))) sz.heap pz (.lst (ss.map V.str)) := ⟨hlen, out.toList, c, vals_of_strs hi, hgt⟩
  have J := I2.call (h' := sz.heap) (g' := sz.gens) (d' := sz.drawn) (t' := sz.toks) (ch := []) (Un.laid k hp hn) (I2.hok.laid k hp ob) (by rw [gg]; exact I2.bare) (fun _ z => nomatch z)
  have e : sz = { s1 with heap := sz.heap, gens := sz.gens, drawn := sz.drawn, toks := sz.toks } := by
    cases sz
    cases s1
    cases oo
    rfl
  rw [e]
  exact ⟨.ref pz, _, J, rfl, q1 ss pz (fun z => by rw [hpm.mem_iff, TxSet.fold_mem]; simp) hd hs hn⟩
variable {ca : Nat → Addr} {xn : Xn} {g : G} {W : WX} {ies : Es}
theorem sE_sset {a : Expr} {p p2 q pos : Pos} (hc : X.calm = true) (hg : Gl X "sorted") (hm : X.mg "sorted" = none) (hg2 : Gl X "set") (hm2 : X.mg "set" = none)
    (na : starEach [a] X.env = (false, eval a X.env) :: starEach [] X.env) (ha : PA X [a] (tIs X.K ca xn g W ies)) : PE X (.Call (.Name "sorted" p) [.Call (.Name "set" p2) [a] [] q] [] pos) (tI X.K ca xn g W (.bf .sset ies)) := by
  refine PE.weak (pe_sset hc hg hm hg2 hm2 ha na) fun sg H Q ⟨rho, fr, s, R, F, q⟩ => ?_
  simp only [ev] at q
  refine tM_bnd (rel := fun rho H a b => VRs X.K ca rho H a b) R F q fun vs us rho1 s1 H1 x1 R1 F1 r1 q => ?_
  exact s_bf .sset R1 r1 q
end
end PI
end

section
set_option Elab.async false
set_option linter.all false
set_option maxRecDepth 100000
set_option maxHeartbeats 3200000
/-! PyR7: list(zip(a, b, c, d)) of four tuples. The draws of one tuple are the library's (nextOf_tuple_item, nextOf_tuple_end); the four together, and the list, are ours. -/
namespace Zip4
open PySem PySem.Spec PyProof.Rows L2 RZ
open Builtin.SmallTypes (nextOf ownedTupleIsFree ownedTupleHandOut)
abbrev tupO (vs : List Value) : Obj := { cls := .type "tuple", data := .seq vs.toArray }
abbrev zipO (N : Nat) (f0 : Value) (f1 : Bool) : Obj := { cls := .type "zip", dict := none, data := .fields #[f0, .bool f1, .bool false, .ref (N + 4), .ref (N + 5)], slots := #[] }
/-- four columns: the tuples' places, what stands in them -/
structure Col where
  l1 : Nat
  l2 : Nat
  l3 : Nat
  l4 : Nat
  x1 : List Value
  x2 : List Value
  x3 : List Value
  x4 : List Value
def Col.row (c : Col) (k : Nat) : Option (List Value) := match c.x1[k]?, c.x2[k]?, c.x3[k]?, c.x4[k]? with
  | some a, some b, some d, some e => some [a, b, d, e]
  | _, _, _, _ => none
/-- the four iterators stand at N .., behind k draws -/
structure Its (h : Heap) (N k : Nat) (c : Col) : Prop where
  i1 : h.IsTupleIter (N + 0) c.l1 k
  i2 : h.IsTupleIter (N + 1) c.l2 k
  i3 : h.IsTupleIter (N + 2) c.l3 k
  i4 : h.IsTupleIter (N + 3) c.l4 k
structure Tups (h : Heap) (N : Nat) (c : Col) : Prop where
  t1 : h.IsTuple c.l1 c.x1.toArray
  t2 : h.IsTuple c.l2 c.x2.toArray
  t3 : h.IsTuple c.l3 c.x3.toArray
  t4 : h.IsTuple c.l4 c.x4.toArray
  o1 : c.l1 < N
  o2 : c.l2 < N
  o3 : c.l3 < N
  o4 : c.l4 < N
/-- outside the zip's own seven objects all stays -/
def Same (N : Nat) (h h2 : Heap) : Prop := h2.objs.size = h.objs.size ∧ ∀ c : Nat, c < N ∨ N + 7 ≤ c → h2.get? c = h.get? c
theorem Same.refl {N : Nat} {h : Heap} : Same N h h := ⟨rfl, fun _ _ => rfl⟩
theorem Same.step {N j : Nat} {h h1 h2 : Heap} (s : Same N h h1) (hj : j < 7) (b : Heap.SameBut (N + j) h1 h2) : Same N h h2 :=
  ⟨b.1.trans s.1, fun c hc => (b.2 c (show ¬(c : Nat) = N + j from fun e => by rcases hc with q | q <;> omega)).trans (s.2 c hc)⟩
theorem ne {N a b : Nat} (h : a ≠ b) : N + a ≠ N + b := fun e => h (Nat.add_left_cancel e)
theorem Tups.same {h h2 : Heap} {N : Nat} {c : Col} (t : Tups h N c) (s : ∀ b : Nat, b < N → h2.get? b = h.get? b) : Tups h2 N c := by
  obtain ⟨⟨a1, b1, e1⟩, ⟨a2, b2, e2⟩, ⟨a3, b3, e3⟩, ⟨a4, b4, e4⟩, o1, o2, o3, o4⟩ := t
  exact ⟨⟨a1, (s _ o1).trans b1, e1⟩, ⟨a2, (s _ o2).trans b2, e2⟩, ⟨a3, (s _ o3).trans b3, e3⟩, ⟨a4, (s _ o4).trans b4, e4⟩, o1, o2, o3, o4⟩
section
variable {P : Program} {w : World} {A : Around} {E : Value → Shared → Prop} {sh : Shared} {N k : Nat} {c : Col}
/-- one draw, seen from the zip -/
theorem draw {j l : Nat} {xs : List Value} {x : Value} {Q : Value → Shared → Prop} (hi : sh.heap.IsTupleIter (N + j) l k) (ht : sh.heap.IsTuple l xs.toArray) (hx : xs[k]? = some x)
    (q : ∀ h2, h2.IsTupleIter (N + j) l (k + 1) → Heap.SameBut (N + j) sh.heap h2 → Q x { sh with heap := h2 }) : wpAny (model P w) A (nextOf (.ref (N + j))) Q E sh :=
  nextOf_tuple_item hi ht (by simpa using hx) q
theorem iter_but {h h2 : Heap} {i j l m : Nat} (hi : h.IsTupleIter (N + i) l m) (b : Heap.SameBut (N + j) h h2) (d : i ≠ j) : h2.IsTupleIter (N + i) l m := hi.extBut b.extBut (ne d)
theorem tup_but {h h2 : Heap} {j l : Nat} {xs : Array Value} (ht : h.IsTuple l xs) (b : Heap.SameBut (N + j) h h2) (d : l < N) : h2.IsTuple l xs := ht.extBut b.extBut (fun e => by rw [e] at d; exact Nat.lt_irrefl _ (Nat.lt_of_le_of_lt (Nat.le_add_right N j) d))
theorem get_but {h h2 : Heap} {i j : Nat} {o : Obj} (hi : h.get? (N + i) = some o) (b : Heap.SameBut (N + j) h h2) (d : i ≠ j) : h2.get? (N + i) = some o := (b.2 _ (ne d)).trans hi
/-- the owned tuple takes the k-th item -/
theorem own_put {T : Nat} {vs : List Value} {i : Nat} {x : Value} {Q : Unit → Shared → Prop} (hT : sh.heap.get? T = some (tupO vs)) (few : vs.length ≤ 4)
    (q : ∀ h2, h2.get? T = some (tupO (vs.set i x)) → Heap.SameBut T sh.heap h2 → Q () { sh with heap := h2 }) : wpAny (model P w) A (updateSeq T (·.setIfInBounds i x)) Q E sh := by
  have sz : vs.toArray.size ≤ sizeLine := by rw [List.size_toArray, sizeLine_eq]; omega
  refine wpAny_updateSeq hT rfl (q _ ?_ (Heap.SameBut.update ..)) sz (by rw [Array.size_setIfInBounds]; exact Nat.le_succ_of_le sz)
  rw [Heap.get?_update_self _ hT rfl]
  simp [Obj.mapSeq, tupO]
/-- the first draw: the owned tuple is used -/
theorem next_free {a b d e : Value} {y1 y2 y3 y4 : Value} {Q : Value → Shared → Prop} (hz : sh.heap.get? (N + 6) = some (zipO N .none false)) (hti : sh.heap.get? (N + 4) = some (tupO [.ref (N + 0), .ref (N + 1), .ref (N + 2), .ref (N + 3)]))
    (hto : sh.heap.get? (N + 5) = some (tupO [a, b, d, e])) (I : Its sh.heap N k c) (T : Tups sh.heap N c) (h1 : c.x1[k]? = some y1) (h2 : c.x2[k]? = some y2) (h3 : c.x3[k]? = some y3) (h4 : c.x4[k]? = some y4) (old : N + 7 ≤ sh.heap.objs.size)
    (q : ∀ hp : Heap, hp.get? (N + 6) = some (zipO N (rawInt sh.heap.objs.size) false) → hp.get? (N + 4) = some (tupO [.ref (N + 0), .ref (N + 1), .ref (N + 2), .ref (N + 3)]) → Its hp N (k + 1) c → hp.get? sh.heap.objs.size = some (tupO [y1, y2, y3, y4]) →
      hp.objs.size = sh.heap.objs.size + 1 → (∀ b : Nat, b < N ∨ N + 7 ≤ b → ∀ o, sh.heap.get? b = some o → hp.get? b = some o) → Q (.ref sh.heap.objs.size) { sh with heap := hp }) :
    wpAny (model P w) A (Builtin.«zip.__next__» ⟨[.ref (N + 6)], []⟩) (fun f s2 => ∃ v, f = .done (.ret v) ∧ Q v s2) E sh := by
  show wpAny _ _ (field (.ref (N + 6)) 2 >>= _) _ _ _
  refine wpAny_bind (wpAny_field hz rfl (x := .bool false) rfl ?_)
  show wpAny _ _ (field (.ref (N + 6)) 3 >>= _) _ _ _
  refine wpAny_bind (wpAny_field hz rfl (x := .ref (N + 4)) rfl ?_)
  refine wpAny_bind (wpAny_seqItems hti rfl ?_)
  show wpAny _ _ (ownedTupleIsFree (.ref (N + 6)) >>= _) _ _ _
  refine wpAny_bind ?_
  unfold ownedTupleIsFree
  refine wpAny_bind (wpAny_field hz rfl (x := .none) rfl (wpAny_pure ?_))
  simp only [if_true]
  refine wpAny_bind (wpAny_rule ?_)
  refine wpAny_bind (wpAny_field hz rfl (x := .ref (N + 5)) rfl ?_)
  refine wpAny_bind (wpAny_setField_rec hz (by simp) fun g0 z0 b0 => ?_)
  refine wpAny_bind ?_
  simp only [List.toList_toArray, List.zipIdx_cons, List.zipIdx_nil, List.forIn_cons, List.forIn_nil]
  have to0 := get_but hto b0 (by decide : 5 ≠ 6)
  refine wpAny_bind (wpAny_bind (wpAny_onRaise ?_))
  show wpAny _ _ (nextOf (.ref (N + 0)) >>= _) _ _ _
  refine wpAny_bind (draw (j := 0) (sh := { sh with heap := g0 }) (iter_but I.i1 b0 (by decide)) (tup_but T.t1 b0 T.o1) h1 fun p1 n1 s1 => wpAny_pure ?_)
  have u1 := get_but to0 s1 (by decide : 5 ≠ 0)
  refine wpAny_bind (wpAny_seqItems u1 rfl ?_)
  refine wpAny_bind (own_put (sh := { sh with heap := p1 }) (i := 0) u1 (by simp) fun g1 to1 b1 => ?_)
  replace to1 : g1.get? (N + 5) = some (tupO [y1, b, d, e]) := to1
  refine wpAny_bind (wpAny_letGo (wpAny_pure ?_))
  refine wpAny_bind (wpAny_bind (wpAny_onRaise ?_))
  show wpAny _ _ (nextOf (.ref (N + 1)) >>= _) _ _ _
  refine wpAny_bind (draw (j := 1) (sh := { sh with heap := g1 }) (iter_but (iter_but (iter_but I.i2 b0 (by decide)) s1 (by decide)) b1 (by decide)) (tup_but (tup_but (tup_but T.t2 b0 T.o2) s1 T.o2) b1 T.o2) h2 fun p2 n2 s2 => wpAny_pure ?_)
  have u2 := get_but to1 s2 (by decide : 5 ≠ 1)
  refine wpAny_bind (wpAny_seqItems u2 rfl ?_)
  refine wpAny_bind (own_put (sh := { sh with heap := p2 }) (i := 1) u2 (by simp) fun g2 to2 b2 => ?_)
  replace to2 : g2.get? (N + 5) = some (tupO [y1, y2, d, e]) := to2
  refine wpAny_bind (wpAny_letGo (wpAny_pure ?_))
  refine wpAny_bind (wpAny_bind (wpAny_onRaise ?_))
  show wpAny _ _ (nextOf (.ref (N + 2)) >>= _) _ _ _
  refine wpAny_bind (draw (j := 2) (sh := { sh with heap := g2 }) (iter_but (iter_but (iter_but (iter_but (iter_but I.i3 b0 (by decide)) s1 (by decide)) b1 (by decide)) s2 (by decide)) b2 (by decide)) (tup_but (tup_but (tup_but (tup_but (tup_but T.t3 b0 T.o3) s1 T.o3) b1 T.o3) s2 T.o3) b2 T.o3) h3 fun p3 n3 s3 => wpAny_pure ?_)
  have u3 := get_but to2 s3 (by decide : 5 ≠ 2)
  refine wpAny_bind (wpAny_seqItems u3 rfl ?_)
  refine wpAny_bind (own_put (sh := { sh with heap := p3 }) (i := 2) u3 (by simp) fun g3 to3 b3 => ?_)
  replace to3 : g3.get? (N + 5) = some (tupO [y1, y2, y3, e]) := to3
  refine wpAny_bind (wpAny_letGo (wpAny_pure ?_))
  refine wpAny_bind (wpAny_bind (wpAny_onRaise ?_))
  show wpAny _ _ (nextOf (.ref (N + 3)) >>= _) _ _ _
  refine wpAny_bind (draw (j := 3) (sh := { sh with heap := g3 }) (iter_but (iter_but (iter_but (iter_but (iter_but (iter_but (iter_but I.i4 b0 (by decide)) s1 (by decide)) b1 (by decide)) s2 (by decide)) b2 (by decide)) s3 (by decide)) b3 (by decide)) (tup_but (tup_but (tup_but (tup_but (tup_but (tup_but (tup_but T.t4 b0 T.o4) s1 T.o4) b1 T.o4) s2 T.o4) b2 T.o4) s3 T.o4) b3 T.o4) h4 fun p4 n4 s4 => wpAny_pure ?_)
  have u4 := get_but to3 s4 (by decide : 5 ≠ 3)
  refine wpAny_bind (wpAny_seqItems u4 rfl ?_)
  refine wpAny_bind (own_put (sh := { sh with heap := p4 }) (i := 3) u4 (by simp) fun g4 to4 b4 => ?_)
  replace to4 : g4.get? (N + 5) = some (tupO [y1, y2, y3, y4]) := to4
  refine wpAny_bind (wpAny_letGo (wpAny_pure (wpAny_pure ?_)))
  show wpAny _ _ (seqItems? (.ref (N + 5)) >>= _) _ _ _
  refine wpAny_bind (wpAny_seqItems to4 rfl ?_)
  show wpAny _ _ (newTuple [y1, y2, y3, y4] >>= _) _ _ _
  refine wpAny_bind (wpAny_newTuple ?_)
  have sm : Same N sh.heap g4 := ((((((((Same.refl.step (by decide) b0).step (by decide) s1).step (by decide) b1).step (by decide) s2).step (by decide) b2).step (by decide) s3).step (by decide) b3).step (by decide) s4).step (by decide) b4
  have zz := get_but (get_but (get_but (get_but (get_but (get_but (get_but (get_but z0 s1 (by decide)) b1 (by decide)) s2 (by decide)) b2 (by decide)) s3 (by decide)) b3 (by decide)) s4 (by decide)) b4 (by decide : 6 ≠ 5)
  have ti := get_but (get_but (get_but (get_but (get_but (get_but (get_but (get_but (get_but hti b0 (by decide : 4 ≠ 6)) s1 (by decide)) b1 (by decide)) s2 (by decide)) b2 (by decide)) s3 (by decide)) b3 (by decide)) s4 (by decide)) b4 (by decide : 4 ≠ 5)
  have k1 := iter_but (iter_but (iter_but (iter_but (iter_but (iter_but (iter_but n1 b1 (by decide)) s2 (by decide)) b2 (by decide)) s3 (by decide)) b3 (by decide)) s4 (by decide)) b4 (by decide : 0 ≠ 5)
  have k2 := iter_but (iter_but (iter_but (iter_but (iter_but n2 b2 (by decide)) s3 (by decide)) b3 (by decide)) s4 (by decide)) b4 (by decide : 1 ≠ 5)
  have k3 := iter_but (iter_but (iter_but n3 b3 (by decide)) s4 (by decide)) b4 (by decide : 2 ≠ 5)
  have k4 := iter_but n4 b4 (by decide : 3 ≠ 5)
  obtain ⟨S, hS⟩ : ∃ S : Nat, S = sh.heap.objs.size := ⟨_, rfl⟩
  have sz : g4.objs.size = S := sm.1.trans hS.symm
  have here : (g4.push (tupO [y1, y2, y3, y4])).get? S = some (tupO [y1, y2, y3, y4]) := by rw [← sz]; exact Heap.get?_push_size _ rfl
  have lt : N + 6 < S := by rw [hS]; omega
  show wpAny _ _ (ownedTupleHandOut (.ref (N + 6)) (.ref g4.objs.size) >>= _) _ _ _
  rw [sz]
  refine wpAny_bind ?_
  unfold ownedTupleHandOut
  refine wpAny_bind (wpAny_setField_rec (Heap.get?_push_of_some _ zz) (by simp) fun g5 z5 b5 => ?_)
  refine wpAny_setField_rec z5 (by simp) fun g6 z6 b6 => ?_
  have up : ∀ x : Nat, x ≠ N + 6 → ∀ o, g4.get? x = some o → g6.get? x = some o := fun x hx o ho => (b6.2 x hx).trans ((b5.2 x hx).trans (Heap.get?_push_of_some _ ho))
  have upI : ∀ j l m, j ≠ 6 → g4.IsTupleIter (N + j) l m → g6.IsTupleIter (N + j) l m := fun j l m hj ⟨o, ho, r⟩ => ⟨o, up _ (ne hj) o ho, r⟩
  refine wpAny_pure ⟨_, rfl, ?_⟩
  rw [hS]
  refine q g6 (by rw [← hS]; exact z6) (up _ (ne (by decide)) _ ti) ⟨upI _ _ _ (by decide) k1, upI _ _ _ (by decide) k2, upI _ _ _ (by decide) k3, upI _ _ _ (by decide) k4⟩ ?_ ?_ fun x hx o ho => ?_
  · rw [← hS]
    have d : S ≠ N + 6 := Nat.ne_of_gt lt
    exact (b6.2 S d).trans ((b5.2 S d).trans here)
  · rw [b6.1, b5.1, ← hS, ← sz]
    exact Heap.size_push ..
  · exact up x (by rcases hx with q | q <;> (intro e; omega)) o ((sm.2 x hx).trans ho)
/-- a further draw: the tuple that was given out is still held -/
theorem next_held {X : Nat} {f : Bool} {oX : Obj} {y1 y2 y3 y4 : Value} {Q : Value → Shared → Prop} (hz : sh.heap.get? (N + 6) = some (zipO N (rawInt X) f)) (hX : sh.heap.get? X = some oX) (hti : sh.heap.get? (N + 4) = some (tupO [.ref (N + 0), .ref (N + 1), .ref (N + 2), .ref (N + 3)]))
    (I : Its sh.heap N k c) (T : Tups sh.heap N c) (h1 : c.x1[k]? = some y1) (h2 : c.x2[k]? = some y2) (h3 : c.x3[k]? = some y3) (h4 : c.x4[k]? = some y4) (old : N + 7 ≤ sh.heap.objs.size)
    (q : ∀ hp : Heap, hp.get? (N + 6) = some (zipO N (rawInt X) true) → hp.get? (N + 4) = some (tupO [.ref (N + 0), .ref (N + 1), .ref (N + 2), .ref (N + 3)]) → Its hp N (k + 1) c → hp.get? sh.heap.objs.size = some (tupO [y1, y2, y3, y4]) →
      hp.objs.size = sh.heap.objs.size + 1 → (∀ b : Nat, b < N ∨ N + 7 ≤ b → ∀ o, sh.heap.get? b = some o → hp.get? b = some o) → Q (.ref sh.heap.objs.size) { sh with heap := hp }) :
    wpAny (model P w) A (Builtin.«zip.__next__» ⟨[.ref (N + 6)], []⟩) (fun f s2 => ∃ v, f = .done (.ret v) ∧ Q v s2) E sh := by
  show wpAny _ _ (field (.ref (N + 6)) 2 >>= _) _ _ _
  refine wpAny_bind (wpAny_field hz rfl (x := .bool false) rfl ?_)
  show wpAny _ _ (field (.ref (N + 6)) 3 >>= _) _ _ _
  refine wpAny_bind (wpAny_field hz rfl (x := .ref (N + 4)) rfl ?_)
  refine wpAny_bind (wpAny_seqItems hti rfl ?_)
  show wpAny _ _ (ownedTupleIsFree (.ref (N + 6)) >>= _) _ _ _
  refine wpAny_bind (wpAny_tupleHeld_zip hz hX fun g0 z0 b0 => ?_)
  simp only [Bool.false_eq_true, if_false]
  refine wpAny_bind ?_
  rw [← Array.forIn_toList]
  simp only [List.toList_toArray, List.forIn_cons, List.forIn_nil]
  refine wpAny_bind (wpAny_bind (wpAny_holding ?_))
  show wpAny _ _ (nextOf (.ref (N + 0)) >>= _) _ _ _
  refine wpAny_bind (draw (j := 0) (sh := { sh with heap := g0 }) (iter_but I.i1 b0 (by decide)) (tup_but T.t1 b0 T.o1) h1 fun p1 n1 s1 => wpAny_pure ?_)
  refine wpAny_pure ?_
  refine wpAny_bind (wpAny_bind (wpAny_holding ?_))
  show wpAny _ _ (nextOf (.ref (N + 1)) >>= _) _ _ _
  refine wpAny_bind (draw (j := 1) (sh := { sh with heap := p1 }) (iter_but (iter_but I.i2 b0 (by decide)) s1 (by decide)) (tup_but (tup_but T.t2 b0 T.o2) s1 T.o2) h2 fun p2 n2 s2 => wpAny_pure ?_)
  refine wpAny_pure ?_
  refine wpAny_bind (wpAny_bind (wpAny_holding ?_))
  show wpAny _ _ (nextOf (.ref (N + 2)) >>= _) _ _ _
  refine wpAny_bind (draw (j := 2) (sh := { sh with heap := p2 }) (iter_but (iter_but (iter_but I.i3 b0 (by decide)) s1 (by decide)) s2 (by decide)) (tup_but (tup_but (tup_but T.t3 b0 T.o3) s1 T.o3) s2 T.o3) h3 fun p3 n3 s3 => wpAny_pure ?_)
  refine wpAny_pure ?_
  refine wpAny_bind (wpAny_bind (wpAny_holding ?_))
  show wpAny _ _ (nextOf (.ref (N + 3)) >>= _) _ _ _
  refine wpAny_bind (draw (j := 3) (sh := { sh with heap := p3 }) (iter_but (iter_but (iter_but (iter_but I.i4 b0 (by decide)) s1 (by decide)) s2 (by decide)) s3 (by decide)) (tup_but (tup_but (tup_but (tup_but T.t4 b0 T.o4) s1 T.o4) s2 T.o4) s3 T.o4) h4 fun p4 n4 s4 => wpAny_pure ?_)
  refine wpAny_pure (wpAny_pure ?_)
  show wpAny _ _ (newTuple [y1, y2, y3, y4] >>= _) _ _ _
  refine wpAny_bind (wpAny_newTuple ?_)
  have sm : Same N sh.heap p4 := ((((Same.refl.step (by decide) b0).step (by decide) s1).step (by decide) s2).step (by decide) s3).step (by decide) s4
  have zz := get_but (get_but (get_but (get_but z0 s1 (by decide)) s2 (by decide)) s3 (by decide)) s4 (by decide : 6 ≠ 3)
  have ti := get_but (get_but (get_but (get_but (get_but hti b0 (by decide : 4 ≠ 6)) s1 (by decide)) s2 (by decide)) s3 (by decide)) s4 (by decide : 4 ≠ 3)
  have k1 := iter_but (iter_but (iter_but n1 s2 (by decide)) s3 (by decide)) s4 (by decide : 0 ≠ 3)
  have k2 := iter_but (iter_but n2 s3 (by decide)) s4 (by decide : 1 ≠ 3)
  have k3 := iter_but n3 s4 (by decide : 2 ≠ 3)
  have sz : p4.objs.size = sh.heap.objs.size := sm.1
  have up : ∀ x o, p4.get? x = some o → (p4.push (tupO [y1, y2, y3, y4])).get? x = some o := fun x o ho => Heap.get?_push_of_some _ ho
  have upI : ∀ i l m, p4.IsTupleIter i l m → (p4.push (tupO [y1, y2, y3, y4])).IsTupleIter i l m := fun i l m ⟨o, ho, r⟩ => ⟨o, up _ o ho, r⟩
  refine wpAny_pure ⟨_, rfl, ?_⟩
  show Q (.ref p4.objs.size) _
  rw [sz]
  refine q _ (up _ _ zz) (up _ _ ti) ⟨upI _ _ _ k1, upI _ _ _ k2, upI _ _ _ k3, upI _ _ _ n4⟩ ?_ ?_ fun x hx o ho => up _ _ ((sm.2 x hx).trans ho)
  · rw [← sz]
    exact Heap.get?_push_size _ rfl
  · rw [← sz]
    exact Heap.size_push ..
abbrev tiO (N : Nat) : Obj := tupO [.ref (N + 0), .ref (N + 1), .ref (N + 2), .ref (N + 3)]
/-- the zip at N + 6 is ready for the k-th draw -/
structure Ready (h : Heap) (N k : Nat) (c : Col) : Prop where
  its : Its h N k c
  tup : Tups h N c
  ti : h.get? (N + 4) = some (tiO N)
  old : N + 7 ≤ h.objs.size
  z : (h.get? (N + 6) = some (zipO N .none false) ∧ ∃ a b d e, h.get? (N + 5) = some (tupO [a, b, d, e])) ∨ ∃ (X : Nat) (f : Bool) (oX : Obj), h.get? (N + 6) = some (zipO N (rawInt X) f) ∧ h.get? X = some oX ∧ N + 7 ≤ X
theorem Ready.cls {h : Heap} (R : Ready h N k c) : ∃ o, h.get? (N + 6) = some o ∧ o.cls = .type "zip" := by
  rcases R.z with ⟨q, _⟩ | ⟨_, _, _, q, _⟩
  · exact ⟨_, q, rfl⟩
  · exact ⟨_, q, rfl⟩
theorem next_item {y1 y2 y3 y4 : Value} {Q : Option Value → Shared → Prop} (R : Ready sh.heap N k c) (h1 : c.x1[k]? = some y1) (h2 : c.x2[k]? = some y2) (h3 : c.x3[k]? = some y3) (h4 : c.x4[k]? = some y4)
    (q : ∀ hp : Heap, Ready hp N (k + 1) c → (∃ (X : Nat) (f : Bool) (oX : Obj), hp.get? (N + 6) = some (zipO N (rawInt X) f) ∧ hp.get? X = some oX ∧ N + 7 ≤ X) → hp.get? sh.heap.objs.size = some (tupO [y1, y2, y3, y4]) → hp.objs.size = sh.heap.objs.size + 1 → (∀ b : Nat, b < N ∨ N + 7 ≤ b → ∀ o, sh.heap.get? b = some o → hp.get? b = some o) → Q (some (.ref sh.heap.objs.size)) { sh with heap := hp }) :
    wpAny (model P w) A (pyNext (.ref (N + 6))) Q E sh := by
  have ty : sh.TypeIs (.ref (N + 6)) "zip" := R.cls
  unfold pyNext
  refine wpAny_bind (wpAny_attempt (wpAny_callSpecial?_slot (name := Str.ofString "__next__") ty F.slot_zip_next (wpAny_call_entry F.slot_zip_next ty F.entry_zip_next ?_ (F.args_zip_next_1 _))))
  have low : ∀ {hp : Heap}, (∀ b : Nat, b < N ∨ N + 7 ≤ b → ∀ o, sh.heap.get? b = some o → hp.get? b = some o) → Tups hp N c := fun {hp} keep => by
    obtain ⟨⟨a1, b1, e1⟩, ⟨a2, b2, e2⟩, ⟨a3, b3, e3⟩, ⟨a4, b4, e4⟩, o1, o2, o3, o4⟩ := R.tup
    exact ⟨⟨a1, keep _ (.inl o1) _ b1, e1⟩, ⟨a2, keep _ (.inl o2) _ b2, e2⟩, ⟨a3, keep _ (.inl o3) _ b3, e3⟩, ⟨a4, keep _ (.inl o4) _ b4, e4⟩, o1, o2, o3, o4⟩
  rcases R.z with ⟨z, a, b, d, e, to⟩ | ⟨X, f, oX, z, hX, hXN⟩
  · refine next_free z R.ti to R.its R.tup h1 h2 h3 h4 R.old fun hp z2 ti2 its2 new sz keep => wpAny_pure ?_
    exact q hp ⟨its2, low keep, ti2, by rw [sz]; exact Nat.le_succ_of_le R.old, .inr ⟨_, _, _, z2, new, R.old⟩⟩ ⟨_, _, _, z2, new, R.old⟩ new sz keep
  · refine next_held z hX R.ti R.its R.tup h1 h2 h3 h4 R.old fun hp z2 ti2 its2 new sz keep => wpAny_pure ?_
    have ho := keep X (.inr hXN) _ hX
    exact q hp ⟨its2, low keep, ti2, by rw [sz]; exact Nat.le_succ_of_le R.old, .inr ⟨_, _, _, z2, ho, hXN⟩⟩ ⟨_, _, _, z2, ho, hXN⟩ new sz keep
/-- there is no more -/
theorem next_none {Q : Option Value → Shared → Prop} (calm : A.handled = none) (R : Ready sh.heap N k c) (held : ∃ (X : Nat) (f : Bool) (oX : Obj), sh.heap.get? (N + 6) = some (zipO N (rawInt X) f) ∧ sh.heap.get? X = some oX ∧ N + 7 ≤ X)
    (h1 : c.x1[k]? = none) (q : ∀ hp : Heap, (∀ b : Nat, b < N ∨ N + 7 ≤ b → ∀ o, sh.heap.get? b = some o → hp.get? b = some o) → Q none { sh with heap := hp }) : wpAny (model P w) A (pyNext (.ref (N + 6))) Q E sh := by
  have ty : sh.TypeIs (.ref (N + 6)) "zip" := R.cls
  obtain ⟨X, f, oX, hz, hX, hXN⟩ := held
  have I := R.its
  have T := R.tup
  unfold pyNext
  refine wpAny_bind (wpAny_attempt (wpAny_callSpecial?_slot (name := Str.ofString "__next__") ty F.slot_zip_next (wpAny_call_entry F.slot_zip_next ty F.entry_zip_next ?_ (F.args_zip_next_1 _))))
  show wpAny _ _ (field (.ref (N + 6)) 2 >>= _) _ _ _
  refine wpAny_bind (wpAny_field hz rfl (x := .bool false) rfl ?_)
  show wpAny _ _ (field (.ref (N + 6)) 3 >>= _) _ _ _
  refine wpAny_bind (wpAny_field hz rfl (x := .ref (N + 4)) rfl ?_)
  refine wpAny_bind (wpAny_seqItems R.ti rfl ?_)
  show wpAny _ _ (ownedTupleIsFree (.ref (N + 6)) >>= _) _ _ _
  refine wpAny_bind (wpAny_tupleHeld_zip hz hX fun g0 z0 b0 => ?_)
  simp only [Bool.false_eq_true, if_false]
  refine wpAny_bind ?_
  rw [← Array.forIn_toList]
  simp only [List.toList_toArray, List.forIn_cons, List.forIn_nil]
  refine wpAny_bind (wpAny_bind (wpAny_holding ?_))
  show wpAny _ _ (nextOf (.ref (N + 0)) >>= _) _ _ _
  refine wpAny_bind (nextOf_tuple_end (s := { sh with heap := g0 }) (by simp [calm]) (iter_but I.i1 b0 (by decide)) (tup_but T.t1 b0 T.o1) (by simpa using h1) fun hp e hb he => ?_)
  obtain ⟨o, ho, hc⟩ := he
  refine wpAny_bind (wpAny_isInstance (T := "StopIteration") (b := true) ⟨o, ho, hc⟩ isSubtype_stop ?_)
  refine wpAny_pure (q hp fun b hbN o ho2 => ?_)
  have n1 : b ≠ N + 6 := fun e => by rcases hbN with q | q <;> (rw [e] at q; omega)
  have n2 : b ≠ N + 0 := fun e => by rcases hbN with q | q <;> (rw [e] at q; omega)
  exact hb b o n2 ((b0.2 b n1).trans ho2)
def Held (h : Heap) (N : Nat) : Prop := ∃ (X : Nat) (f : Bool) (oX : Obj), h.get? (N + 6) = some (zipO N (rawInt X) f) ∧ h.get? X = some oX ∧ N + 7 ≤ X
/-- another object is changed -/
theorem Ready.but {h h2 : Heap} {D : Nat} (R : Ready h N k c) (b : Heap.SameBut D h h2) (hD : N + 7 ≤ D) (live : ∃ o, h2.get? D = some o) : Ready h2 N k c := by
  have lo : ∀ j : Nat, j < 7 → ∀ o, h.get? (N + j) = some o → h2.get? (N + j) = some o := fun j hj o ho => (b.2 _ (by intro e; rw [← e] at hD; omega)).trans ho
  have loI : ∀ j l m, j < 7 → h.IsTupleIter (N + j) l m → h2.IsTupleIter (N + j) l m := fun j l m hj ⟨o, ho, r⟩ => ⟨o, lo j hj o ho, r⟩
  have I := R.its
  refine ⟨⟨loI 0 _ _ (by decide) I.i1, loI 1 _ _ (by decide) I.i2, loI 2 _ _ (by decide) I.i3, loI 3 _ _ (by decide) I.i4⟩, R.tup.same fun x hx => b.2 x (by intro e; rw [e] at hx; omega), lo 4 (by decide) _ R.ti, by rw [b.1]; exact R.old, ?_⟩
  rcases R.z with ⟨z, a, b2, d, e, to⟩ | ⟨X, f, oX, z, hX, hXN⟩
  · exact .inl ⟨lo 6 (by decide) _ z, a, b2, d, e, lo 5 (by decide) _ to⟩
  · by_cases e : X = D
    · obtain ⟨o, ho⟩ := live
      exact .inr ⟨X, f, o, lo 6 (by decide) _ z, by rw [e]; exact ho, hXN⟩
    · exact .inr ⟨X, f, oX, lo 6 (by decide) _ z, (b.2 X e).trans hX, hXN⟩
theorem Ready.up {h h2 : Heap} (R : Ready h N k c) (u : ∀ b o, h.get? b = some o → h2.get? b = some o) (s : h.objs.size ≤ h2.objs.size) : Ready h2 N k c := by
  have uI : ∀ i l m, h.IsTupleIter i l m → h2.IsTupleIter i l m := fun i l m ⟨o, ho, r⟩ => ⟨o, u _ _ ho, r⟩
  have uT : ∀ i l, h.IsTuple i l → h2.IsTuple i l := fun i l ⟨o, ho, r⟩ => ⟨o, u _ _ ho, r⟩
  have I := R.its
  have T := R.tup
  refine ⟨⟨uI _ _ _ I.i1, uI _ _ _ I.i2, uI _ _ _ I.i3, uI _ _ _ I.i4⟩, ⟨uT _ _ T.t1, uT _ _ T.t2, uT _ _ T.t3, uT _ _ T.t4, T.o1, T.o2, T.o3, T.o4⟩, u _ _ R.ti, Nat.le_trans R.old s, ?_⟩
  rcases R.z with ⟨z, a, b, d, e, to⟩ | ⟨X, f, oX, z, hX, hXN⟩
  · exact .inl ⟨u _ _ z, a, b, d, e, u _ _ to⟩
  · exact .inr ⟨X, f, oX, u _ _ z, u _ _ hX, hXN⟩
theorem Held.but {h h2 : Heap} {D : Nat} (R : Held h N) (b : Heap.SameBut D h h2) (hD : N + 7 ≤ D) (live : ∃ o, h2.get? D = some o) : Held h2 N := by
  obtain ⟨X, f, oX, z, hX, hXN⟩ := R
  have z2 : h2.get? (N + 6) = some (zipO N (rawInt X) f) := (b.2 _ (by intro e; rw [← e] at hD; omega)).trans z
  by_cases e : X = D
  · obtain ⟨o, ho⟩ := live
    exact ⟨X, f, o, z2, by rw [e]; exact ho, hXN⟩
  · exact ⟨X, f, oX, z2, (b.2 X e).trans hX, hXN⟩
abbrev lstO (acc : List Nat) (n : Nat) : Obj := { cls := .type "list", dict := none, data := .seq (acc.map Value.ref).toArray n, slots := #[] }
/-- the rows stand at acc -/
def Rows (h : Heap) (N D : Nat) (c : Col) (acc : List Nat) : Prop := ∀ j T, acc[j]? = some T → N + 7 ≤ T ∧ T ≠ D ∧ ∃ r, c.row j = some r ∧ h.get? T = some (tupO r)
theorem Rows.keep {h h2 : Heap} {D : Nat} {acc : List Nat} (R : Rows h N D c acc) (k : ∀ T : Nat, T ≠ D → N + 7 ≤ T → ∀ o, h.get? T = some o → h2.get? T = some o) : Rows h2 N D c acc := fun j T e => by
  obtain ⟨h1, h2, r, hr, ho⟩ := R j T e
  exact ⟨h1, h2, r, hr, k T h2 h1 _ ho⟩
theorem grow {Rz : Result → Shared → Prop} (calm : A.in1.handled = none) {D : Nat} (hD : N + 7 ≤ D) (res : Value) {n : Nat} (e1 : c.x1.length = n) (e2 : c.x2.length = n) (e3 : c.x3.length = n) (e4 : c.x4.length = n) (few : n < 1000) :
    ∀ (m k : Nat) (sh : Shared) (acc : List Nat) (cnt : Nat), k + m = n → Ready sh.heap N k c → (k = n → Held sh.heap N) → sh.heap.get? D = some (lstO acc cnt) → acc.length = k → Rows sh.heap N D c acc → acc.Nodup →
      (∀ hp acc2 cnt2, hp.get? D = some (lstO acc2 cnt2) → acc2.length = n → Rows hp N D c acc2 → acc2.Nodup → (∀ b : Nat, b ≠ D → b < N ∨ N + 7 ≤ b → ∀ o, sh.heap.get? b = some o → hp.get? b = some o) → Rz (.ok (.ret res)) { sh with heap := hp }) →
      codeAny (model P w) A (.builtin "list.extend.loop" ⟨[.ref D, .ref (N + 6), res], []⟩) Rz sh := by
  intro m
  induction m with
  | zero =>
    intro k sh acc cnt hk R held hl hlen rows nd fin
    have e : k = n := by omega
    refine codeAny_builtin F.entry_extend_loop ?_
    rw [Around.under_plainId F.plain_extend_loop _]
    show wpAny _ A.in1 (pyNext (.ref (N + 6)) >>= _) _ _ sh
    refine wpAny_bind (next_none calm R (held e) (List.getElem?_eq_none (by omega)) fun hp keep => wpAny_pure ?_)
    exact fin hp acc cnt (keep D (.inr hD) _ hl) (by omega) (rows.keep fun T _ hT o ho => keep T (.inr hT) o ho) nd fun b _ hb o ho => keep b hb o ho
  | succ m ih =>
    intro k sh acc cnt hk R held hl hlen rows nd fin
    obtain ⟨y1, h1⟩ : ∃ y, c.x1[k]? = some y := ⟨_, List.getElem?_eq_getElem (by omega)⟩
    obtain ⟨y2, h2⟩ : ∃ y, c.x2[k]? = some y := ⟨_, List.getElem?_eq_getElem (by omega)⟩
    obtain ⟨y3, h3⟩ : ∃ y, c.x3[k]? = some y := ⟨_, List.getElem?_eq_getElem (by omega)⟩
    obtain ⟨y4, h4⟩ : ∃ y, c.x4[k]? = some y := ⟨_, List.getElem?_eq_getElem (by omega)⟩
    have hrow : c.row k = some [y1, y2, y3, y4] := by unfold Col.row; rw [h1, h2, h3, h4]
    refine codeAny_builtin F.entry_extend_loop ?_
    rw [Around.under_plainId F.plain_extend_loop _]
    show wpAny _ A.in1 (pyNext (.ref (N + 6)) >>= _) _ _ sh
    refine wpAny_bind (next_item R h1 h2 h3 h4 fun hp R2 H2 new sz keep => ?_)
    have dlt : D < sh.heap.objs.size := Heap.lt_size hl
    have hl2 : hp.get? D = some (lstO acc cnt) := keep D (.inr hD) _ hl
    show wpAny _ A.in1 (updateSeq D (·.push (.ref sh.heap.objs.size)) >>= _) _ _ _
    refine wpAny_bind (wpAny_updateSeq hl2 rfl ?_ (by rw [List.size_toArray, List.length_map, sizeLine_eq]; omega) (by rw [Array.size_push, List.size_toArray, List.length_map, sizeLine_eq]; omega))
    have b : Heap.SameBut D hp (hp.update D (Obj.mapSeq (·.push (.ref sh.heap.objs.size)))) := Heap.SameBut.update ..
    have at_ : (hp.update D (Obj.mapSeq (·.push (.ref sh.heap.objs.size)))).get? D = some (lstO (acc ++ [sh.heap.objs.size]) (cnt + 1)) := by
      rw [Heap.get?_update_self _ hl2 rfl]
      simp [Obj.mapSeq, lstO]
    have up : ∀ x : Nat, x ≠ D → N + 7 ≤ x → ∀ o, hp.get? x = some o → (hp.update D (Obj.mapSeq (·.push (.ref sh.heap.objs.size)))).get? x = some o := fun x hx _ o ho => (b.2 x hx).trans ho
    refine wpAny_pure ⟨plainId_quiet F.plain_extend_loop _, ih (k + 1) _ (acc ++ [sh.heap.objs.size]) (cnt + 1) (by omega) (R2.but b hD ⟨_, at_⟩) (fun _ => Held.but H2 b hD ⟨_, at_⟩) at_ (by simp [hlen]) ?_ ?_ fun hp2 acc2 cnt2 q1 q2 q3 qn q4 => ?_⟩
    · intro j T hj
      rcases Nat.lt_or_ge j acc.length with lt | ge
      · rw [List.getElem?_append_left lt] at hj
        exact ((rows.keep fun T _ hT o ho => keep T (.inr hT) o ho).keep up) j T hj
      · have hjl : j = acc.length := by
          have := (List.getElem?_eq_some_iff.mp hj).1
          simp at this
          omega
        rw [hjl, List.getElem?_append_right (Nat.le_refl _), Nat.sub_self] at hj
        obtain rfl : sh.heap.objs.size = T := by simpa using hj
        have dn : (sh.heap.objs.size : Nat) ≠ D := Nat.ne_of_gt dlt
        exact ⟨R.old, dn, _, by rw [hjl, hlen]; exact hrow, up _ dn R.old _ new⟩
    · rw [List.nodup_append]
      refine ⟨nd, by simp, fun a h1 b h2 => ?_⟩
      rw [List.mem_singleton] at h2
      rw [h2]
      obtain ⟨j, hj⟩ := List.getElem?_of_mem h1
      obtain ⟨_, _, _, _, ho⟩ := rows j a hj
      exact Nat.ne_of_lt (Heap.lt_size ho)
    · exact fin hp2 acc2 cnt2 q1 q2 q3 qn fun x hx hxN o ho => q4 x hx hxN o ((b.2 x hx).trans (keep x hxN o ho))
/-! ### the zip is made -/
abbrev itO (l : Nat) : Obj := { cls := .type "tuple_iterator", data := .fields #[.ref l, .int 0 0] }
def made (h : Heap) (l1 l2 l3 l4 : Nat) : Heap :=
  ((((((h.push (itO l1)).push (itO l2)).push (itO l3)).push (itO l4)).push (tupO [.ref h.objs.size, .ref (h.objs.size + 1), .ref (h.objs.size + 2), .ref (h.objs.size + 3)])).push (tupO [.none, .none, .none, .none])).push (zipO h.objs.size .none false)
theorem zip_args (a b d e : Value) : checkTypeCall "zip" ⟨[a, b, d, e], []⟩ = pure () := by kernel_rfl
theorem zip_new_args (a b d e : Value) : checkBuiltinCall "zip.__new__" ⟨[.type "zip", a, b, d, e], []⟩ = pure () := by kernel_rfl
theorem obj_init_args (o a b d e : Value) : argsOk "object.__init__" ⟨[o, a, b, d, e], []⟩ := by
  unfold argsOk
  rw [signature?_of (id := "object.__init__") (n := ['_', '_', 't', 'i', 'n', 'i', '_', '_']) (o := ['t', 'c', 'e', 'j', 'b', 'o']) (by kernel_rfl) F.owner_object]
  kernel_rfl
theorem zip_new (l1 l2 l3 l4 : Nat) (x1 x2 x3 x4 : Array Value) :
    Meets (Builtin.«zip.__new__» ⟨[.type "zip", .ref l1, .ref l2, .ref l3, .ref l4], []⟩) (fun _ R s => s.heap.IsTuple l1 x1 ∧ s.heap.IsTuple l2 x2 ∧ s.heap.IsTuple l3 x3 ∧ s.heap.IsTuple l4 x4 ∧
      R (.ok (.ret (.ref (s.heap.objs.size + 6)))) { s with heap := made s.heap l1 l2 l3 l4 }) :=
  .of_wp fun prog w A R s ⟨t1, t2, t3, t4, h⟩ => by
    obtain ⟨hp, g, d, tk, os⟩ := s
    have isz := sub_zip
    have a1 : Heap.IsTuple (Shared.heap ⟨hp, g, d, tk, os⟩) l1 x1 := t1
    have a2 : Heap.IsTuple (Shared.heap ⟨hp.push (itO l1), g, d, tk, os⟩) l2 x2 := t2.push _
    have a3 : Heap.IsTuple (Shared.heap ⟨(hp.push (itO l1)).push (itO l2), g, d, tk, os⟩) l3 x3 := (t3.push _).push _
    have a4 : Heap.IsTuple (Shared.heap ⟨((hp.push (itO l1)).push (itO l2)).push (itO l3), g, d, tk, os⟩) l4 x4 := ((t4.push _).push _).push _
    wp_walk using wpAny_pyIter_tuple a1, wpAny_pyIter_tuple a2, wpAny_pyIter_tuple a3, wpAny_pyIter_tuple a4
    refine ⟨_, rfl, ?_⟩
    have z : ∀ (h : Heap) (o : Obj), (h.push o).objs.size = h.objs.size + 1 := fun h o => Heap.size_push ..
    simp only [z] at h ⊢
    exact h
theorem call_zip4 {Q : Value → Shared → Prop} (c : Col) (T : Tups sh.heap sh.heap.objs.size c) (q : ∀ hp : Heap, Ready hp sh.heap.objs.size 0 c → hp.objs.size = sh.heap.objs.size + 7 → (∀ b o, sh.heap.get? b = some o → hp.get? b = some o) → Q (.ref (sh.heap.objs.size + 6)) { sh with heap := hp }) :
    wpAny (model P w) A (call (.type "zip") [.ref c.l1, .ref c.l2, .ref c.l3, .ref c.l4]) Q E sh := by
  refine callType_new F.called_zip (by decide) (zip_args _ _ _ _) (zip_new_args _ _ _ _) (fun o => obj_init_args o _ _ _ _) F.entry_zip_new (zip_new _ _ _ _ c.x1.toArray c.x2.toArray c.x3.toArray c.x4.toArray) ⟨T.t1, T.t2, T.t3, T.t4, ?_⟩
  obtain ⟨N, hN⟩ : ∃ N : Nat, N = sh.heap.objs.size := ⟨_, rfl⟩
  have up : ∀ b o, sh.heap.get? b = some o → (made sh.heap c.l1 c.l2 c.l3 c.l4).get? b = some o := fun b o ho =>
    Heap.get?_push_of_some _ (Heap.get?_push_of_some _ (Heap.get?_push_of_some _ (Heap.get?_push_of_some _ (Heap.get?_push_of_some _ (Heap.get?_push_of_some _ (Heap.get?_push_of_some _ ho))))))
  have z : ∀ (h : Heap) (o : Obj), (h.push o).objs.size = h.objs.size + 1 := fun h o => Heap.size_push ..
  have here : ∀ (h : Heap) (o : Obj) (n : Nat), o.isFreed = false → h.objs.size = n → (h.push o).get? n = some o := fun h o n f e => by rw [← e]; exact Heap.get?_push_size _ f
  have g0 : (made sh.heap c.l1 c.l2 c.l3 c.l4).get? (N + 0) = some (itO c.l1) := Heap.get?_push_of_some _ (Heap.get?_push_of_some _ (Heap.get?_push_of_some _ (Heap.get?_push_of_some _ (Heap.get?_push_of_some _ (Heap.get?_push_of_some _ (here _ _ _ rfl hN.symm))))))
  have g1 : (made sh.heap c.l1 c.l2 c.l3 c.l4).get? (N + 1) = some (itO c.l2) := Heap.get?_push_of_some _ (Heap.get?_push_of_some _ (Heap.get?_push_of_some _ (Heap.get?_push_of_some _ (Heap.get?_push_of_some _ (here _ _ _ rfl (by simp only [z, hN]))))))
  have g2 : (made sh.heap c.l1 c.l2 c.l3 c.l4).get? (N + 2) = some (itO c.l3) := Heap.get?_push_of_some _ (Heap.get?_push_of_some _ (Heap.get?_push_of_some _ (Heap.get?_push_of_some _ (here _ _ _ rfl (by simp only [z, hN])))))
  have g3 : (made sh.heap c.l1 c.l2 c.l3 c.l4).get? (N + 3) = some (itO c.l4) := Heap.get?_push_of_some _ (Heap.get?_push_of_some _ (Heap.get?_push_of_some _ (here _ _ _ rfl (by simp only [z, hN]))))
  have g4 : (made sh.heap c.l1 c.l2 c.l3 c.l4).get? (N + 4) = some (tiO N) := by rw [hN]; exact Heap.get?_push_of_some _ (Heap.get?_push_of_some _ (here _ _ _ rfl (by simp only [z])))
  have g5 : (made sh.heap c.l1 c.l2 c.l3 c.l4).get? (N + 5) = some (tupO [.none, .none, .none, .none]) := Heap.get?_push_of_some _ (here _ _ _ rfl (by simp only [z, hN]))
  have g6 : (made sh.heap c.l1 c.l2 c.l3 c.l4).get? (N + 6) = some (zipO N .none false) := by rw [hN]; exact here _ _ _ rfl (by simp only [z])
  have sz : (made sh.heap c.l1 c.l2 c.l3 c.l4).objs.size = N + 7 := by rw [hN]; simp only [made, z]
  have tup : Tups (made sh.heap c.l1 c.l2 c.l3 c.l4) N c := by
    obtain ⟨⟨a1, b1, e1⟩, ⟨a2, b2, e2⟩, ⟨a3, b3, e3⟩, ⟨a4, b4, e4⟩, o1, o2, o3, o4⟩ := T
    rw [← hN] at o1 o2 o3 o4
    exact ⟨⟨a1, up _ _ b1, e1⟩, ⟨a2, up _ _ b2, e2⟩, ⟨a3, up _ _ b3, e3⟩, ⟨a4, up _ _ b4, e4⟩, o1, o2, o3, o4⟩
  rw [← hN] at q ⊢
  exact ⟨⟨_, g6, rfl⟩, q _ ⟨⟨⟨_, g0, rfl, rfl⟩, ⟨_, g1, rfl, rfl⟩, ⟨_, g2, rfl, rfl⟩, ⟨_, g3, rfl, rfl⟩⟩, tup, g4, by rw [sz]; exact Nat.le_refl _, .inl ⟨g6, _, _, _, _, g5⟩⟩ sz up⟩
/-! ### the list of it -/
theorem no_len : typeLookup (.type "zip") "__len__" = pure none := am_miss_of_fast (by decide +kernel)
theorem no_hint : typeLookup (.type "zip") "__length_hint__" = pure none := am_miss_of_fast (by decide +kernel)
theorem hint_zip {z : Nat} {Q : Bool → Shared → Prop} (ty : sh.TypeIs (.ref z) "zip") (h : Q true sh) : wpAny (model P w) A (Builtin.List.listLengthHint (.ref z)) Q E sh := by
  unfold Builtin.List.listLengthHint
  refine wpAny_bind (wpAny_specialOf ty no_len ?_)
  show wpAny _ _ (specialOf (Value.ref z) (Str.ofString "__length_hint__") >>= _) _ _ _
  refine wpAny_bind (wpAny_specialOf ty no_hint ?_)
  exact wpAny_pure h
theorem list_of_zip {n : Nat} {Q : Value → Shared → Prop} (calm : A.handled = none) (R : Ready sh.heap N 0 c) (e1 : c.x1.length = n) (e2 : c.x2.length = n) (e3 : c.x3.length = n) (e4 : c.x4.length = n) (pos : 0 < n) (few : n < 1000)
    (q : ∀ (hp : Heap) (tk : Nat) (acc : List Nat) (cnt : Nat), hp.get? sh.heap.objs.size = some (lstO acc cnt) → acc.length = n → Rows hp N sh.heap.objs.size c acc → acc.Nodup → (∀ b : Nat, b < N ∨ N + 7 ≤ b → ∀ o, sh.heap.get? b = some o → hp.get? b = some o) → Q (.ref sh.heap.objs.size) { sh with heap := hp, toks := tk }) :
    wpAny (model P w) A (call (.type "list") [.ref (N + 6)]) Q E sh := by
  obtain ⟨D, hD⟩ : ∃ D : Nat, D = sh.heap.objs.size := ⟨_, rfl⟩
  have hN : N + 7 ≤ D := by rw [hD]; exact R.old
  refine callType_codes (Q₁ := fun obj s1 => obj = .ref D ∧ s1 = { sh with heap := sh.heap.push { cls := .type "list", data := .seq #[] } }) F.called_list (F.typeCall_list_1 _) F.entry_list_init (code_list_new _ ⟨by rw [hD], rfl⟩) fun obj s1 new => ?_
  obtain ⟨rfl, rfl⟩ := new
  have at0 : (sh.heap.push { cls := .type "list", data := .seq #[] }).get? D = some (lstO [] 0) := by rw [hD]; exact Heap.get?_push_size _ rfl
  refine ⟨⟨_, at0, rfl⟩, F.args_list_init_2 _ _, ?_⟩
  show wpAny _ _ (do let old ← Builtin.List.listItems (.ref D); Builtin.List.listUpdate (.ref D) (fun _ => #[]); letGo old.toList.reverse; Builtin.List.listExtendWith (.ref D) (.ref (N + 6)) .none) _ _ _
  refine wpAny_bind ?_
  unfold Builtin.List.listItems
  refine wpAny_bind (wpAny_seqItems at0 rfl (wpAny_pure ?_))
  show wpAny _ _ (updateSeq D (fun _ => #[]) >>= fun _ => letGo (#[] : Array Value).toList.reverse >>= fun _ => Builtin.List.listExtendWith (.ref D) (.ref (N + 6)) .none) _ _ _
  refine wpAny_bind (wpAny_updateSeq at0 rfl ?_)
  obtain ⟨h1, hh1⟩ : ∃ h1, h1 = (sh.heap.push { cls := .type "list", data := .seq #[] }).update D (Obj.mapSeq (fun _ => (#[] : Array Value))) := ⟨_, rfl⟩
  obtain ⟨c1, at1⟩ : ∃ c1, h1.get? D = some (lstO [] c1) := ⟨_, by
    rw [hh1, Heap.get?_update_self (Obj.mapSeq (fun _ => (#[] : Array Value))) at0 rfl]
    simp only [Obj.mapSeq, lstO]
    rfl⟩
  have b1 : Heap.SameBut D (sh.heap.push { cls := .type "list", data := .seq #[] }) h1 := by rw [hh1]; exact Heap.SameBut.update ..
  rw [← hh1]
  refine wpAny_bind (wpAny_letGo ?_)
  have R0 : Ready (sh.heap.push { cls := .type "list", data := .seq #[] }) N 0 c := R.up (fun b o ho => Heap.get?_push_of_some _ ho) (by rw [Heap.size_push]; exact Nat.le_succ _)
  have R1 : Ready h1 N 0 c := R0.but b1 hN ⟨_, at1⟩
  unfold Builtin.List.listExtendWith
  refine wpAny_bind (wpAny_typeOf (T := "zip") (v := .ref (N + 6)) R1.cls ?_)
  have k1 : Builtin.List.listSameRef (.ref D) (.ref (N + 6)) = false := by
    show (D == N + 6) = false
    exact beq_false_of_ne (by omega)
  have k2 : (Value.type "zip" == Value.type "list") = false := by decide
  have k3 : (Value.type "zip" == Value.type "tuple") = false := by decide
  simp only [k1, k2, k3, Bool.or_false, Bool.false_eq_true, if_false]
  have itself : ∀ {Q : Value → Shared → Prop} {E : Value → Shared → Prop} {A : Around}, Q (.ref (N + 6)) { sh with heap := h1 } → wpAny (model P w) A (pyIter (.ref (N + 6))) Q E { sh with heap := h1 } := fun {Q E A} z => by
    have ty : Shared.TypeIs { sh with heap := h1 } (.ref (N + 6)) "zip" := R1.cls
    refine wpAny_pyIter_slot ty F.slot_zip_iter (wpAny_call_entry F.slot_zip_iter ty F.entry_zip_iter ?_ (F.args_zip_iter_1 _))
    show wpAny _ _ (ret (.ref (N + 6))) _ _ _
    exact wpAny_pure ⟨_, rfl, "zip", _, ty, F.slot_zip_next.lookup, z⟩
  refine wpAny_bind (itself ?_)
  refine wpAny_bind (wpAny_holding (hint_zip (sh := { sh with heap := h1 }) R1.cls ?_))
  show wpAny _ _ (rule "list.extend.makes-room" >>= fun _ => Builtin.List.listTouch (.ref D) >>= fun _ => again (.builtin "list.extend.loop" ⟨[.ref D, .ref (N + 6), .none], []⟩)) _ _ _
  refine wpAny_bind (wpAny_rule (wpAny_bind ?_))
  show wpAny _ _ (updateSeq D (·.push .none) >>= fun _ => updateSeq D (·.pop)) _ _ _
  refine wpAny_bind (wpAny_updateSeq at1 rfl ?_)
  have at2 := Heap.get?_update_self (Obj.mapSeq (·.push Value.none)) at1 rfl
  refine wpAny_updateSeq at2 rfl ?_ (by decide) (by decide)
  obtain ⟨h2, hh2⟩ : ∃ h2, h2 = h1.update D (Obj.mapSeq (·.push Value.none)) := ⟨_, rfl⟩
  obtain ⟨h3, hh3⟩ : ∃ h3, h3 = h2.update D (Obj.mapSeq (·.pop)) := ⟨_, rfl⟩
  rw [← hh2] at at2
  obtain ⟨c3, at3⟩ : ∃ c3, h3.get? D = some (lstO [] c3) := ⟨_, by
    rw [hh3, Heap.get?_update_self (Obj.mapSeq (·.pop)) at2 rfl]
    simp only [Obj.mapSeq, lstO]
    rfl⟩
  have b2 : Heap.SameBut D h1 h2 := by rw [hh2]; exact Heap.SameBut.update ..
  have b3 : Heap.SameBut D h2 h3 := by rw [hh3]; exact Heap.SameBut.update ..
  have R3 : Ready h3 N 0 c := (R1.but b2 hN ⟨_, at2⟩).but b3 hN ⟨_, at3⟩
  show wpAny _ _ (again (.builtin "list.extend.loop" ⟨[.ref D, .ref (N + 6), .none], []⟩)) _ _ { sh with heap := (h1.update D (Obj.mapSeq (·.push Value.none))).update D (Obj.mapSeq (·.pop)) }
  rw [← hh2, ← hh3]
  refine wpAny_pure ⟨plainId_quiet F.plain_extend_loop _, grow (A := A.in1) (by simp [calm]) hN .none e1 e2 e3 e4 few n 0 { sh with heap := h3 } [] c3 (by omega) R3 (by omega) at3 rfl (fun j T e => by simp at e) List.nodup_nil fun hp acc2 cnt2 q1 q2 q3 qn q4 => ?_⟩
  refine ⟨rfl, ?_⟩
  rw [← hD] at q
  exact q hp _ acc2 cnt2 q1 q2 q3 qn fun b hb o ho => by
    have lt : b < D := by rw [hD]; exact Heap.lt_size ho
    have nb : b ≠ D := Nat.ne_of_lt lt
    exact q4 b nb hb o ((b3.2 b nb).trans ((b2.2 b nb).trans ((b1.2 b nb).trans (Heap.get?_push_of_some _ ho))))
end
end Zip4
end

section
set_option Elab.async false
set_option linter.all false
set_option maxRecDepth 100000
/-! PyR8: list(zip(..)) of four tuples as an expression. -/
namespace PI
open PySem PySem.Spec PyProof PyProof.Rows L2 TL
open Zip4 (Col Tups Ready Rows tupO lstO)
/-- what is laid at a, of the objects os at ts -/
def at4 : List Addr → List HO → Addr → Option HO
  | t :: ts, o :: os, a => if a = t then some o else at4 ts os a
  | _, _, _ => none
theorem at4_get : ∀ {ts : List Addr} {os : List HO} {j : Nat} {T : Addr} {o : HO}, ts.Nodup → ts[j]? = some T → os[j]? = some o → at4 ts os T = some o
  | t :: ts, u :: os, 0, T, o, _, h1, h2 => by
    simp only [List.getElem?_cons_zero, Option.some.injEq] at h1 h2
    rw [h1, h2]
    exact if_pos rfl
  | t :: ts, u :: os, j + 1, T, o, nd, h1, h2 => by
    simp only [List.getElem?_cons_succ] at h1 h2
    obtain ⟨n1, n2⟩ := List.nodup_cons.mp nd
    have ne : T ≠ t := fun e => n1 (by rw [← e]; exact List.mem_of_getElem? h1)
    show (if T = t then _ else _) = _
    rw [if_neg ne]
    exact at4_get n2 h1 h2
  | [], _, _, _, _, _, h, _ => by simp at h
  | _ :: _, [], _, _, _, _, _, h => by simp at h
theorem at4_some : ∀ {ts : List Addr} {os : List HO} {a : Addr} {o : HO}, at4 ts os a = some o → ∃ j : Nat, ts[j]? = some a ∧ os[j]? = some o
  | t :: ts, u :: os, a, o, h => by
    unfold at4 at h
    split at h
    · rename_i e
      exact ⟨0, by rw [e]; rfl, h⟩
    · obtain ⟨j, h1, h2⟩ := at4_some h
      exact ⟨j + 1, by simpa using h1, by simpa using h2⟩
  | [], _, _, _, h => by simp [at4] at h
  | _ :: _, [], _, _, h => by simp [at4] at h
def lay4 (H : Hp) (ts : List Addr) (os : List HO) : Hp := fun a => match at4 ts os a with
  | some o => some o
  | none => H a
section
variable {H : Hp} {ts : List Addr} {os : List HO} {a : Addr} {o : HO}
theorem lay4_new (h : at4 ts os a = some o) : lay4 H ts os a = some o := by unfold lay4; rw [h]
theorem lay4_old (h : at4 ts os a = none) : lay4 H ts os a = H a := by unfold lay4; rw [h]
end
/-- the j-th row of the readings -/
def rowV (v1 v2 v3 v4 : List V) (j : Nat) : List V := match v1[j]?, v2[j]?, v3[j]?, v4[j]? with
  | some a, some b, some d, some e => [a, b, d, e]
  | _, _, _, _ => []
section
variable {X : Cx} {pins : List (Addr × Obj)} {sg : L2.St} {H : Hp} {s1 : Shared}
theorem laid_zip4 {v1 v2 v3 v4 : List V} {c : Col} {N D : Nat} {hp : Heap} {tk cnt n : Nat} {acc : List Nat} (I : Inv X pins sg H s1) (hN : N = s1.heap.objs.size) (hD : N + 7 ≤ D)
    (r1 : Vals v1 c.x1) (r2 : Vals v2 c.x2) (r3 : Vals v3 c.x3) (r4 : Vals v4 c.x4) (e1 : v1.length = n) (e2 : v2.length = n) (e3 : v3.length = n) (e4 : v4.length = n) (few : n < 1000)
    (q1 : hp.get? D = some (lstO acc cnt)) (q2 : acc.length = n) (q3 : Rows hp N D c acc) (qn : acc.Nodup) (q4 : ∀ b o, s1.heap.get? b = some o → hp.get? b = some o) :
    ∃ H1 : Hp, Laid4 H H1 acc v1 v2 v3 v4 ∧ H1 D = none ∧ Inv X pins sg (upd H1 D (.lst (acc.map V.ref))) { s1 with heap := hp, toks := tk } := by
  obtain ⟨os, hos⟩ : ∃ os : List HO, os = (List.range n).map fun j => HO.frz (tupO ((c.row j).getD [])) (.tup (rowV v1 v2 v3 v4 j)) := ⟨_, rfl⟩
  have row : ∀ j, j < n → ∃ r, c.row j = some r ∧ Vals (rowV v1 v2 v3 v4 j) r ∧ (rowV v1 v2 v3 v4 j).length = 4 := fun j hj => by
    obtain ⟨a, ha⟩ : ∃ a, v1[j]? = some a := ⟨_, List.getElem?_eq_getElem (by omega)⟩
    obtain ⟨b, hb⟩ : ∃ a, v2[j]? = some a := ⟨_, List.getElem?_eq_getElem (by omega)⟩
    obtain ⟨d, hd⟩ : ∃ a, v3[j]? = some a := ⟨_, List.getElem?_eq_getElem (by omega)⟩
    obtain ⟨e, he⟩ : ∃ a, v4[j]? = some a := ⟨_, List.getElem?_eq_getElem (by omega)⟩
    obtain ⟨w1, g1, k1⟩ := r1.get ha
    obtain ⟨w2, g2, k2⟩ := r2.get hb
    obtain ⟨w3, g3, k3⟩ := r3.get hd
    obtain ⟨w4, g4, k4⟩ := r4.get he
    refine ⟨[w1, w2, w3, w4], by unfold Col.row; rw [g1, g2, g3, g4], ?_, ?_⟩
    · unfold rowV
      rw [ha, hb, hd, he]
      exact .cons k1 (.cons k2 (.cons k3 (.cons k4 .nil)))
    · unfold rowV
      rw [ha, hb, hd, he]
      rfl
  have old : ∀ T, T ∈ acc → N + 7 ≤ T ∧ T ≠ D := fun T m => by
    obtain ⟨j, hj⟩ := List.getElem?_of_mem m
    obtain ⟨h1, h2, _⟩ := q3 j T hj
    exact ⟨h1, h2⟩
  have new : ∀ a o, at4 acc os a = some o → ∃ j r, j < n ∧ acc[j]? = some a ∧ c.row j = some r ∧ Vals (rowV v1 v2 v3 v4 j) r ∧ (rowV v1 v2 v3 v4 j).length = 4 ∧ o = HO.frz (tupO r) (.tup (rowV v1 v2 v3 v4 j)) ∧ hp.get? a = some (tupO r) := fun a o h => by
    obtain ⟨j, h1, h2⟩ := at4_some h
    have hj : j < n := by rw [← q2]; exact (List.getElem?_eq_some_iff.mp h1).1
    obtain ⟨r, hr, hv, hl⟩ := row j hj
    obtain ⟨_, _, r', hr', hg⟩ := q3 j a h1
    rw [hr] at hr'
    cases hr'
    refine ⟨j, r, hj, h1, hr, hv, hl, ?_, hg⟩
    rw [hos, List.getElem?_map, List.getElem?_range hj] at h2
    simp only [Option.map_some, Option.some.injEq] at h2
    rw [← h2, hr]
    rfl
  have low : ∀ a, a < N → at4 acc os a = none := fun a ha => by
    cases e : at4 acc os a with
    | none => rfl
    | some o =>
      obtain ⟨j, _, _, h1, _⟩ := new a o e
      have := (old a (List.mem_of_getElem? h1)).1
      omega
  have dn : at4 acc os D = none := by
    cases e : at4 acc os D with
    | none => rfl
    | some o =>
      obtain ⟨j, _, _, h1, _⟩ := new D o e
      exact absurd rfl (old D (List.mem_of_getElem? h1)).2
  have hDn : H D = none := I.hok.fresh (by rw [← hN]; omega)
  have keep : ∀ a u, H a = some u → lay4 H acc os a = some u := fun a u e => by
    rw [lay4_old (low a (by rw [hN]; exact I.hok.lt e))]
    exact e
  have hD1 : lay4 H acc os D = none := by rw [lay4_old dn]; exact hDn
  have keep2 : ∀ a u, H a = some u → upd (lay4 H acc os) D (.lst (acc.map V.ref)) a = some u := fun a u e => by
    rw [upd_ne (fun z => by rw [z, hDn] at e; cases e)]
    exact keep a u e
  refine ⟨lay4 H acc os, ⟨keep, by rw [q2, e1], fun j T a b d e hT ha hb hd he => ?_⟩, hD1, ?_⟩
  · have hj : j < n := by rw [← q2]; exact (List.getElem?_eq_some_iff.mp hT).1
    obtain ⟨r, hr, _, _⟩ := row j hj
    refine ⟨tupO r, rfl, lay4_new (at4_get qn hT ?_)⟩
    rw [hos, List.getElem?_map, List.getElem?_range hj]
    simp only [Option.map_some, hr, Option.getD_some]
    unfold rowV
    rw [ha, hb, hd, he]
  · have refs : ∀ l : List Nat, Vals (l.map V.ref) (l.map Value.ref) := fun l => by
      induction l with
      | nil => exact .nil
      | cons x r ih => exact .cons rfl ih
    have hok : HOk X.prog X.w (upd (lay4 H acc os) D (.lst (acc.map V.ref))) hp := fun b u e => by
      by_cases hb : b = D
      · subst hb
        rw [upd_same] at e
        cases e
        exact ⟨by rw [List.length_map, q2, sizeLine_eq]; omega, acc.map Value.ref, cnt, refs acc, q1⟩
      · rw [upd_ne hb] at e
        cases e4 : at4 acc os b with
        | some o =>
          rw [lay4_new e4] at e
          cases e
          obtain ⟨j, r, _, _, _, hv, hl, rfl, hg⟩ := new b u e4
          exact ⟨hg, by rw [hl, sizeLine_eq]; decide, r, hv, _, hg, rfl, _, rfl⟩
        | none =>
          rw [lay4_old e4] at e
          exact (I.hok b u e).stay (fun c v _ q => q4 c v q) (fun c q => keep2 c _ q) fun c xs q => keep2 c _ q
    have un : Un (frs X.stack) [] H (upd (lay4 H acc os) D (.lst (acc.map V.ref))) s1.heap hp :=
      ⟨fun b o q _ _ _ => q4 b o q, fun b o q _ _ _ => ⟨o.slots, q4 b o q⟩, fun b o q hn _ => by
        have lt : b < N := by rw [hN]; exact Heap.lt_size q
        rw [upd_ne (Nat.ne_of_lt (Nat.lt_of_lt_of_le lt (Nat.le_trans (Nat.le_add_right N 7) hD))), lay4_old (low b lt)]
        exact hn, fun b o q _ => ⟨o, q4 b o q⟩, fun b xs q => keep2 b _ q, fun b o u q => keep2 b _ q, fun b ps q => ⟨#[], by rw [keep2 b _ q]; simp⟩⟩
    exact I.call (h' := hp) (g' := s1.gens) (d' := s1.drawn) (t' := tk) un hok I.bare fun _ z => nomatch z
end
section
variable {X : Cx}
theorem Vals.ref4 {p1 p2 p3 p4 : Addr} {us : List Value} (r : Vals [V.ref p1, .ref p2, .ref p3, .ref p4] us) : us = [Value.ref p1, .ref p2, .ref p3, .ref p4] := by
  cases r with | cons h1 r =>
  cases r with | cons h2 r =>
  cases r with | cons h3 r =>
  cases r with | cons h4 r =>
  cases r
  rw [show _ = _ from h1, show _ = _ from h2, show _ = _ from h3, show _ = _ from h4]
theorem boot_zip : bootBuiltins ("zip" : Str) = some (.type "zip") := rfl
theorem boot_list : bootBuiltins ("list" : Str) = some (.type "list") := rfl
theorem pe_zip4 {a b d e : Expr} {ta : TA} {p p2 q pos : Pos} (hc : X.calm = true) (hg : Gl X "list") (hm : X.mg "list" = none) (hg2 : Gl X "zip") (hm2 : X.mg "zip" = none) (ha : PA X [a, b, d, e] ta)
    (na : starEach [a, b, d, e] X.env = (false, eval a X.env) :: starEach [b, d, e] X.env) (hpl : (backTo q (starEach [b, d, e] X.env)).any (·.1) = false) :
    PE X (.Call (.Name "list" p) [.Call (.Name "zip" p2) [a, b, d, e] [] q] [] pos) (fun sg H Q => ta sg H fun vs H1 => rZip4 X.K vs H1 Q) := by
  refine ⟨fun pins s sg H Q I h => ?_⟩
  refine Call_ (ld_blt I hg hm boot_list ?_)
  refine PyProof.Rows.callWith_type1 (PyProof.Rows.args_cons ?_ rfl) rfl rfl
  refine Call_ (ld_blt I hg2 hm2 boot_zip ?_)
  refine PyProof.Rows.callWith_type1 (thn (ha.run q pins s sg H _ I h) fun us s1 ⟨vs, H1, I1, r1, q1⟩ => ?_) na hpl
  obtain ⟨p1, p2, p3, p4, v1, v2, v3, v4, rfl, h1, h2, h3, h4, l2, l3, l4, pz, few, q1⟩ := q1
  rw [Vals.ref4 r1]
  obtain ⟨x1, t1, m1, _⟩ := I1.tuple h1
  obtain ⟨x2, t2, m2, _⟩ := I1.tuple h2
  obtain ⟨x3, t3, m3, _⟩ := I1.tuple h3
  obtain ⟨x4, t4, m4, _⟩ := I1.tuple h4
  have z1 := t1.length
  have z2 := t2.length
  have z3 := t3.length
  have z4 := t4.length
  have T : Tups s1.heap s1.heap.objs.size ⟨p1, p2, p3, p4, x1, x2, x3, x4⟩ := ⟨m1, m2, m3, m4, m1.lt, m2.lt, m3.lt, m4.lt⟩
  refine Zip4.call_zip4 (sh := s1) ⟨p1, p2, p3, p4, x1, x2, x3, x4⟩ T fun hz R hsz up => ?_
  refine PyProof.Rows.args_nil ?_
  refine Zip4.list_of_zip (n := v1.length) (sh := { s1 with heap := hz }) (I1.ok.hd hc) R (by simp only; omega) (by simp only; omega) (by simp only; omega) (by simp only; omega) pz few fun hp tk acc cnt k1 k2 k3 kn k4 => ?_
  have hN : s1.heap.objs.size + 7 ≤ hz.objs.size := by rw [hsz]; exact Nat.le_refl _
  obtain ⟨H2, L, hD, J⟩ := laid_zip4 (tk := tk) I1 rfl hN t1 t2 t3 t4 rfl l2 l3 l4 few k1 k2 k3 kn fun b o ho => k4 b (.inl (Heap.lt_size ho)) o (up b o ho)
  exact ⟨.ref hz.objs.size, _, J, rfl, q1 H2 acc hz.objs.size L hD⟩
variable {ca : Nat → Addr} {xn : Xn} {g : G} {W : WX} {ies : Es}
theorem sE_zip4 {a b d e : Expr} {p p2 q pos : Pos} (hc : X.calm = true) (hg : Gl X "list") (hm : X.mg "list" = none) (hg2 : Gl X "zip") (hm2 : X.mg "zip" = none)
    (na : starEach [a, b, d, e] X.env = (false, eval a X.env) :: starEach [b, d, e] X.env) (hpl : (backTo q (starEach [b, d, e] X.env)).any (·.1) = false) (ha : PA X [a, b, d, e] (tIs X.K ca xn g W ies)) :
    PE X (.Call (.Name "list" p) [.Call (.Name "zip" p2) [a, b, d, e] [] q] [] pos) (tI X.K ca xn g W (.bf .zip4 ies)) := by
  refine PE.weak (pe_zip4 hc hg hm hg2 hm2 ha na hpl) fun sg H Q ⟨rho, fr, s, R, F, q⟩ => ?_
  simp only [ev] at q
  refine tM_bnd (rel := fun rho H a b => VRs X.K ca rho H a b) R F q fun vs us rho1 s1 H1 x1 R1 F1 r1 q => ?_
  exact s_bf .zip4 R1 r1 q
end
end PI
end

section
set_option Elab.async false
set_option linter.all false
set_option maxRecDepth 100000
/-! PyM2: an expression that was looked at does what ours does. -/
namespace PI
open PySem PySem.Spec PyProof.Rows L2 TL RZ
def plainB : Expr → Bool
  | .UnaryOp .Not _ _ => false
  | .BoolOp _ _ _ => false
  | .IfExp _ _ _ _ => false
  | .Compare _ _ _ _ => false
  | _ => true
theorem plain_ok {x : Expr} (h : plainB x = true) (env : Env) : ∀ whole, isTrue x env whole = (do let v ← whole; standAt x.pos; holding [v] (truthy v)) := by
  intro whole
  cases x with
  | UnaryOp op e p => cases op <;> first | rfl | cases h
  | BoolOp _ _ _ => cases h
  | IfExp _ _ _ _ => cases h
  | Compare _ _ _ _ => cases h
  | _ => rfl
/-- what is shown of an expression -/
structure T3 (gi : GI) (ad : Ad) (g : G) (W : WX) (X : Cx) (x : Expr) (e : E) : Prop where
  pe : PE X x (tI X.K ad.ca gi.xn g W e)
  pt : isIte e = false → PT X x (tT X.K ad.ca gi.xn g W e)
  pw : ∀ op vs p, x = .BoolOp op vs p → PW X x (tT X.K ad.ca gi.xn g W e)
section
variable {gi : GI} {ad : Ad} {g : G} {W : WX} {k : Nat} {c : C} {X : Cx}
theorem t3 {x : Expr} {e : E} (hp : plainB x = true) (h : PE X x (tI X.K ad.ca gi.xn g W e)) : T3 gi ad g W X x e :=
  ⟨h, fun _ => sT_val h (plain_ok hp X.env), fun op vs p e => by subst e; cases hp⟩
theorem k_plain {v : Val} {x : Expr} (h : kB gi c v x = true) : plainB x = true := by
  unfold kB at h
  split at h <;> first | rfl | cases h
theorem ty_ok (ok : Cok gi ad g W k c X) {t : Ty} {n : Str} {p : Pos} (h : tyNB gi c t n = true) : ∃ w, PE X (.Name n p) (tC w) ∧ ClsV w (tyN ad.ca (some t)) ∧ okTy gi.pg t = true := by
  unfold tyNB at h
  rw [Bool.and_eq_true] at h
  obtain ⟨g1, g2⟩ := gl_ok ok h.1
  have h2 := h.2
  have blt : ∀ (T : String), n = tyN' t → (t ≠ .cls 0 → True) → bootBuiltins n = some (.type T) → (n == "__name__") = false → gi.bi.contains n = true → PE X (.Name n p) (tC (.ty T)) := fun T _ _ hv hn hb =>
    pe_bltn g1 (bi_ok ok hb) hv rfl (fun z => by rw [z] at hn; simp at hn) g2
  cases t with
  | cls d =>
    simp only at h2
    cases e : gi.gc.lookup n with
    | none => rw [e] at h2; cases h2
    | some d' =>
      rw [e] at h2
      rw [Bool.and_eq_true] at h2
      have := of_decide_eq_true h2.1
      subst this
      exact ⟨.ref (ad.ca d), pe_glob g1 (ok.pr.gc n d e) rfl g2, .own _, h2.2⟩
  | int => simp only [Bool.and_eq_true, decide_eq_true_eq] at h2; obtain ⟨rfl, hb⟩ := h2; exact ⟨_, blt "int" rfl (fun _ => trivial) rfl (by decide) hb, .ty _, rfl⟩
  | str => simp only [Bool.and_eq_true, decide_eq_true_eq] at h2; obtain ⟨rfl, hb⟩ := h2; exact ⟨_, blt "str" rfl (fun _ => trivial) rfl (by decide) hb, .ty _, rfl⟩
  | bool => simp only [Bool.and_eq_true, decide_eq_true_eq] at h2; obtain ⟨rfl, hb⟩ := h2; exact ⟨_, blt "bool" rfl (fun _ => trivial) rfl (by decide) hb, .ty _, rfl⟩
  | list => simp only [Bool.and_eq_true, decide_eq_true_eq] at h2; obtain ⟨rfl, hb⟩ := h2; exact ⟨_, blt "list" rfl (fun _ => trivial) rfl (by decide) hb, .ty _, rfl⟩
  | tuple => simp only [Bool.and_eq_true, decide_eq_true_eq] at h2; obtain ⟨rfl, hb⟩ := h2; exact ⟨_, blt "tuple" rfl (fun _ => trivial) rfl (by decide) hb, .ty _, rfl⟩
  | dict => simp only [Bool.and_eq_true, decide_eq_true_eq] at h2; obtain ⟨rfl, hb⟩ := h2; exact ⟨_, blt "dict" rfl (fun _ => trivial) rfl (by decide) hb, .ty _, rfl⟩
theorem sT_chain {a b d : Expr} {ia ib ic : E} {pos : Pos} {o o2 : Cp} (hcp : ∀ o : Cp, OpR X (compareOp (cper o)) (rCp ad.ca gi.xn g X.K o)) (hn : ¬ (o = .isN ∨ o = .notN)) (hn2 : ¬ (o2 = .isN ∨ o2 = .notN)) (hm : behindInMarks (cper o2) d = false) (ha : PE X a (tI X.K ad.ca gi.xn g W ia)) (hb : PE X b (tI X.K ad.ca gi.xn g W ib)) (hc : PE X d (tI X.K ad.ca gi.xn g W ic)) :
    PT X (.Compare a [cper o, cper o2] [b, d] pos) (tT X.K ad.ca gi.xn g W (.chain o o2 ia ib ic)) :=
  PT.weak (pt_chain (hcp o) (hcp o2) ha hb hc hm) fun sg H Q ⟨rho, fr, s, R, F, q⟩ => by
    simp only [ev] at q
    rw [bnd_assoc] at q
    refine tM_bnd (rel := fun rho H a b => VR X.K ad.ca rho H a b) R F q fun v u rho1 s1 H1 x1 R1 F1 r1 q => ?_
    rw [bnd_assoc] at q
    refine tM_bnd (rel := fun rho H a b => VR X.K ad.ca rho H a b) R1 F1 q fun v2 u2 rho2 s2 H2 x2 R2 F2 r2 q => ?_
    rw [bnd_assoc] at q
    refine s_cmp o (fun z => absurd z hn) R2 (r1.mono R1 x2) r2 (q.bnd.imp fun k rho3 s3 H3 x3 R3 q => ⟨k, rfl, ?_⟩)
    cases k with
    | false => exact ⟨false, rfl, q.ret R3 _ rfl⟩
    | true =>
      have q : Post X.K ad.ca gi.xn (bnd (bnd (ev g fr ic) fun z => bnd (cmpv g o2 v2 z) fun k2 => ret (Val.bl k2)) truth s3) rho3 H3 (fun a rho' _ H' => ∀ b, b = a → Q b H') (fun cls d H' => W cls d sg H') := q
      rw [bnd_assoc] at q
      refine tM_bnd (rel := fun rho H a b => VR X.K ad.ca rho H a b) R3 (F2.mono R2 x3) q fun v4 u4 rho4 s4 H4 x4 R4 F4 r4 q => ?_
      rw [bnd_assoc] at q
      exact s_cmp o2 (fun z => absurd z hn2) R4 ((r2.mono R2 x3).mono R3 x4) r4 (q.bnd.imp fun k rho5 s5 H5 x5 R5 q => ⟨k, rfl, q.ret R5 _ rfl⟩)
end
variable {gi : GI} {ad : Ad} {g : G} {k : Nat}
mutual
theorem me_ok : ∀ (e : E) (c : C) (W : WX) (X : Cx) (x : Expr), Cok gi ad g W k c X → mE gi e c x = true → T3 gi ad g W X x e
  | .no, c, W, X, x, ok, h => by simp [mE] at h
  | .xat _, c, W, X, x, ok, h => by simp [mE] at h
  | .k v, c, W, X, x, ok, h => by
    simp only [mE] at h
    exact t3 (k_plain h) (m_k ok h)
  | .dk kvs, c, W, X, x, ok, h => by
    cases x <;> simp only [mE] at h <;> first | (cases h; done) | exact t3 rfl (dkB_ok h)
  | .var i, c, W, X, x, ok, h => by
    cases x <;> simp only [mE] at h <;> first | (cases h; done) | exact t3 rfl (m_var ok h)
  | .tup es, c, W, X, x, ok, h => by
    cases x <;> simp only [mE] at h <;> first | (cases h; done) | exact t3 rfl (sE_tup (mes_ok es c W X _ ok h).1)
  | .lst es, c, W, X, x, ok, h => by
    cases x <;> simp only [mE] at h <;> first | (cases h; done) | exact t3 rfl (sE_lst (mes_ok es c W X _ ok h).1)
  | .op o a b, c, W, X, x, ok, h => by
    cases x <;> first | (simp only [mE] at h; cases h; done) | skip
    rename_i x p y pos
    simp only [mE, Bool.and_eq_true] at h
    rw [opB_ok h.1.1]
    exact t3 rfl (sE_op (me_ok a c W X _ ok h.1.2).pe (me_ok b c W X _ ok h.2).pe)
  | .neg a, c, W, X, x, ok, h => by
    cases x <;> first | (simp only [mE] at h; cases h; done) | skip
    rename_i op x pos
    cases op <;> simp only [mE] at h <;> first | cases h; done | exact t3 rfl (sE_neg (me_ok a c W X _ ok h).pe)
  | .not a, c, W, X, x, ok, h => by
    cases x <;> first | (simp only [mE] at h; cases h; done) | skip
    rename_i op x pos
    cases op <;> simp only [mE] at h <;> first | cases h; done | skip
    simp only [Bool.and_eq_true, Bool.not_eq_true'] at h
    have t := me_ok a c W X _ ok h.2
    exact ⟨sE_not t.pe, fun _ => sT_not (t.pt h.1), fun _ _ _ e => by cases e⟩
  | .and a b, c, W, X, x, ok, h => by
    cases x <;> first | (simp only [mE] at h; cases h; done) | skip
    rename_i op vs pos
    cases op <;> first | (simp only [mE] at h; cases h; done) | skip
    match vs, h with
    | [], h => simp only [mE] at h; cases h
    | [_], h => simp only [mE] at h; cases h
    | x :: y :: [], h =>
      simp only [mE] at h
      simp only [Bool.and_eq_true, Bool.not_eq_true'] at h
      have t1 := me_ok a c W X _ ok h.1.2
      have t2 := me_ok b c W X _ ok h.2
      have pw := sW_and (pos := pos) (t1.pt h.1.1.1) (pw_and1 (t2.pt h.1.1.2))
      exact ⟨sE_and t1.pe (pe_one t2.pe), fun _ => pw.pt, fun op vs p e => by cases e; exact pw⟩
    | x :: y :: z :: r, h =>
      simp only [mE] at h
      simp only [Bool.and_eq_true, Bool.not_eq_true'] at h
      have t1 := me_ok a c W X _ ok h.1.2
      have t2 := me_ok b c W X _ ok h.2
      have pw := sW_and (pos := pos) (t1.pt h.1.1.1) (t2.pw _ _ _ rfl)
      exact ⟨sE_and t1.pe t2.pe, fun _ => pw.pt, fun op vs p e => by cases e; exact pw⟩
  | .or a b, c, W, X, x, ok, h => by
    cases x <;> first | (simp only [mE] at h; cases h; done) | skip
    rename_i op vs pos
    cases op <;> first | (simp only [mE] at h; cases h; done) | skip
    match vs, h with
    | [], h => simp only [mE] at h; cases h
    | [_], h => simp only [mE] at h; cases h
    | x :: y :: [], h =>
      simp only [mE] at h
      simp only [Bool.and_eq_true, Bool.not_eq_true'] at h
      have t1 := me_ok a c W X _ ok h.1.2
      have t2 := me_ok b c W X _ ok h.2
      have pw := sW_or (pos := pos) (t1.pt h.1.1.1) (pw_or1 (t2.pt h.1.1.2))
      exact ⟨sE_or t1.pe (pe_one t2.pe), fun _ => pw.pt, fun op vs p e => by cases e; exact pw⟩
    | x :: y :: z :: r, h =>
      simp only [mE] at h
      simp only [Bool.and_eq_true, Bool.not_eq_true'] at h
      have t1 := me_ok a c W X _ ok h.1.2
      have t2 := me_ok b c W X _ ok h.2
      have pw := sW_or (pos := pos) (t1.pt h.1.1.1) (t2.pw _ _ _ rfl)
      exact ⟨sE_or t1.pe t2.pe, fun _ => pw.pt, fun op vs p e => by cases e; exact pw⟩
  | .ite d a b, c, W, X, x, ok, h => by
    cases x <;> first | (simp only [mE] at h; cases h; done) | skip
    simp only [mE] at h
    simp only [Bool.and_eq_true, Bool.not_eq_true'] at h
    have t0 := me_ok d c W X _ ok h.1.1.2
    exact ⟨sE_ite (t0.pt h.1.1.1) (me_ok a c W X _ ok h.1.2).pe (me_ok b c W X _ ok h.2).pe, fun z => (by cases z), fun _ _ _ e => (by cases e)⟩
  | .cmp o a b, c, W, X, x, ok, h => by
    cases x <;> first | (simp only [mE] at h; cases h; done) | skip
    rename_i x ops ys pos
    match ops, ys, h with
    | [p], [y], h =>
      simp only [mE, Bool.and_eq_true, Bool.not_eq_true', Bool.or_eq_true] at h
      obtain ⟨⟨⟨⟨h1, h2⟩, h3⟩, h4⟩, h5⟩ := h
      have e1 := of_decide_eq_true h1
      subst e1
      have t1 := me_ok a c W X _ ok h4
      have t2 := me_ok b c W X _ ok h5
      have hn : o = .isN ∨ o = .notN → b = .k .non := fun z => isNon_ok (h2.resolve_left (by rcases z with rfl | rfl <;> simp [isNB]))
      exact ⟨sE_cmp ok.cp hn h3 t1.pe t2.pe, fun _ => sT_cmp ok.cp hn h3 t1.pe t2.pe, fun _ _ _ e => by cases e⟩
    | [], _, h => simp only [mE] at h; cases h
    | [p], [], h => simp only [mE] at h; cases h
    | [p], y :: z :: r, h => simp only [mE] at h; cases h
    | p :: q :: r, _, h => simp only [mE] at h; cases h
  | .chain o o2 a b d, c, W, X, x, ok, h => by
    cases x <;> first | (simp only [mE] at h; cases h; done) | skip
    rename_i x ops ys pos
    match ops, ys, h with
    | [p, p2], [y, z], h =>
      simp only [mE, Bool.and_eq_true, Bool.not_eq_true'] at h
      obtain ⟨⟨⟨⟨⟨⟨⟨h1, h2⟩, h3⟩, h4⟩, h5⟩, h6⟩, h7⟩, h8⟩ := h
      have e1 := of_decide_eq_true h1
      have e2 := of_decide_eq_true h2
      subst e1 e2
      have t1 := me_ok a c W X _ ok h6
      have t2 := me_ok b c W X _ ok h7
      have t3' := me_ok d c W X _ ok h8
      exact ⟨sE_chain ok.cp (isNB_ok h3) (isNB_ok h4) h5 t1.pe t2.pe t3'.pe, fun _ => sT_chain ok.cp (isNB_ok h3) (isNB_ok h4) h5 t1.pe t2.pe t3'.pe, fun _ _ _ e => by cases e⟩
    | [], _, h => simp only [mE] at h; cases h
    | [p], _, h => simp only [mE] at h; cases h
    | [p, p2], [], h => simp only [mE] at h; cases h
    | [p, p2], [y], h => simp only [mE] at h; cases h
    | [p, p2], y :: z :: w :: r, h => simp only [mE] at h; cases h
    | p :: q :: r :: t, _, h => simp only [mE] at h; cases h
  | .idx a b, c, W, X, x, ok, h => by
    cases x <;> first | (simp only [mE] at h; cases h; done) | skip
    simp only [mE] at h
    simp only [Bool.and_eq_true] at h
    exact t3 rfl (sE_idx (ix_ok h.1.1) (me_ok a c W X _ ok h.1.2).pe (me_ok b c W X _ ok h.2).pe)
  | .slc a lo hi, c, W, X, x, ok, h => by
    cases x <;> first | (simp only [mE] at h; cases h; done) | skip
    rename_i x y pos
    cases y <;> first | (simp only [mE] at h; cases h; done) | skip
    rename_i l u st p2
    cases st <;> first | (simp only [mE] at h; cases h; done) | skip
    simp only [mE, Bool.and_eq_true] at h
    obtain ⟨⟨h1, h2⟩, h3⟩ := h
    have hl : PO X l (tOi X.K ad.ca gi.xn g W lo) := by
      cases l with
      | none => rw [isNo_ok h2]; exact sO_none
      | some y =>
        simp only [Bool.and_eq_true, Bool.not_eq_true'] at h2
        exact sO_some (by cases lo <;> first | rfl | (simp [isNo] at h2)) (me_ok lo c W X _ ok h2.2).pe
    have hu : PO X u (tOi X.K ad.ca gi.xn g W hi) := by
      cases u with
      | none => rw [isNo_ok h3]; exact sO_none
      | some y =>
        simp only [Bool.and_eq_true, Bool.not_eq_true'] at h3
        exact sO_some (by cases hi <;> first | rfl | (simp [isNo] at h3)) (me_ok hi c W X _ ok h3.2).pe
    exact t3 rfl (sE_slc (me_ok a c W X _ ok h1).pe hl hu)
  | .rev a, c, W, X, x, ok, h => by
    have key : ∃ y k p1 p2 p3 p, x = .Subscript y (.Slice none none (some (.UnaryOp .USub (.Constant (.int 1) k p1) p2)) p3) p ∧ mE gi a c y = true := by
      cases x <;> first | (simp only [mE] at h; cases h; done) | skip
      rename_i y sl p
      cases sl <;> first | (simp only [mE] at h; cases h; done) | skip
      rename_i l u st p3
      match l, u, st, h with
      | none, none, some (.UnaryOp .USub (.Constant (.int 1) k p1) p2), h => simp only [mE] at h; exact ⟨_, _, _, _, _, _, rfl, h⟩
      | some _, _, _, h => simp [mE] at h
      | none, some _, _, h => simp [mE] at h
      | none, none, none, h => simp [mE] at h
      | none, none, some st, h =>
        unfold mE at h
        split at h <;> first | (simp at h; done) | skip
        all_goals simp_all
    obtain ⟨y, k1, p1, p2, p3, p, rfl, h⟩ := key
    exact t3 rfl (sE_rev (me_ok a c W X _ ok h).pe)
  | .attr a f, c, W, X, x, ok, h => by
    cases x <;> first | (simp only [mE] at h; cases h; done) | skip
    simp only [mE] at h
    simp only [Bool.and_eq_true] at h
    have e1 := of_decide_eq_true h.1.1
    subst e1
    exact t3 rfl (sE_fld (baseB_ok h.1.2 _ _) (me_ok a c W X _ ok h.2).pe)
  | .call f es, c, W, X, x, ok, h => by
    cases x <;> first | (simp only [mE] at h; cases h; done) | skip
    rename_i fn xs ks pos
    cases fn <;> first | (simp only [mE] at h; cases h; done) | skip
    · rename_i o m ap
      cases o <;> first | (simp only [mE] at h; cases h; done) | skip
      rename_i n p
      match xs, ks, h with
      | x :: xs, [], h =>
        simp only [mE, Bool.and_eq_true] at h
        obtain ⟨⟨⟨⟨⟨h1, h2⟩, h3⟩, h4⟩, h5⟩, h6⟩ := h
        have e : gi.sm.lookup (n, m) = some f := by
          cases e : gi.sm.lookup (n, m) with
          | none => rw [e] at h2; cases h2
          | some f' => rw [e] at h2; rw [of_decide_eq_true h2]
        exact t3 rfl (m_stat ok h1 e h3 h4 h5 (mes_ok es c W X _ ok h6).1)
      | [], _, h => simp only [mE] at h; cases h
      | _ :: _, _ :: _, h => simp only [mE] at h; cases h
    · rename_i n p
      match ks, h with
      | [], h =>
        simp only [mE, Bool.and_eq_true] at h
        obtain ⟨⟨⟨⟨h1, h2⟩, h3⟩, h4⟩, h5⟩ := h
        have e : gi.gf.lookup n = some f := by
          cases e : gi.gf.lookup n with
          | none => rw [e] at h2; cases h2
          | some f' => rw [e] at h2; rw [of_decide_eq_true h2]
        obtain ⟨ha, hb, h0⟩ := mes_ok es c W X _ ok h5
        exact t3 rfl (m_call ok h1 (ok.pr.gf n f e) h3 h4 ha h0)
      | _ :: _, h => simp only [mE] at h; cases h
  | .make d es, c, W, X, x, ok, h => by
    cases x <;> first | (simp only [mE] at h; cases h; done) | skip
    rename_i fn xs ks pos
    cases fn <;> first | (simp only [mE] at h; cases h; done) | skip
    rename_i n p
    match ks, h with
    | [], h =>
      simp only [mE, Bool.and_eq_true] at h
      obtain ⟨⟨⟨⟨h1, h2⟩, h3⟩, h4⟩, h5⟩ := h
      have e : gi.gc.lookup n = some d := by
        cases e : gi.gc.lookup n with
        | none => rw [e] at h2; cases h2
        | some f' => rw [e] at h2; rw [of_decide_eq_true h2]
      obtain ⟨f, hf⟩ := Option.isSome_iff_exists.mp h3
      obtain ⟨ha, hb, h0⟩ := mes_ok es c W X _ ok h5
      exact t3 rfl (m_make ok h1 (ok.pr.gc n d e) hf h4 ha h0)
    | _ :: _, h => simp only [mE] at h; cases h
  | .meth a m es, c, W, X, x, ok, h => by
    cases x <;> first | (simp only [mE] at h; cases h; done) | skip
    rename_i fn xs ks pos
    cases fn <;> first | (simp only [mE] at h; cases h; done) | skip
    rename_i o m' ap
    match ks, h with
    | [], h =>
      simp only [mE, Bool.and_eq_true] at h
      obtain ⟨⟨⟨⟨⟨h1, h2⟩, h3⟩, h4⟩, h5⟩, h6⟩ := h
      have e := of_decide_eq_true h1
      subst e
      obtain ⟨ha, hb, h0⟩ := mes_ok es c W X _ ok h6
      exact t3 rfl (m_meth ok h2 h3 h4 (me_ok a c W X _ ok h5).pe ha h0)
    | _ :: _, h => simp only [mE] at h; cases h
  | .bf b es, c, W, X, x, ok, h => by
    cases x <;> first | (simp only [mE] at h; cases h; done) | skip
    rename_i fn xs ks pos
    cases fn <;> first | (simp only [mE] at h; cases h; done) | skip
    rename_i n p
    match xs, ks, h with
    | x :: xs, [], h =>
      simp only [mE] at h
      cases hz : isSset b with
      | true =>
        have eb : b = .sset := by cases b <;> first | rfl | cases hz
        subst eb
        rw [if_pos hz] at h
        split at h
        · simp only [Bool.and_eq_true, decide_eq_true_eq] at h
          obtain ⟨⟨⟨⟨⟨⟨⟨h1, h2⟩, h3⟩, h4⟩, h5⟩, h6⟩, h7⟩, h8⟩ := h
          subst h1
          subst h2
          obtain ⟨ha, hb, h0⟩ := mes_ok es c W X _ ok h8
          obtain ⟨n1, n2⟩ := few_split h7
          exact t3 rfl (sE_sset ok.calm (gl_ok ok h3).1 (bi_ok ok h5) (gl_ok ok h4).1 (bi_ok ok h6) (star_cons n1 _ _) ha)
        · cases h
      | false =>
       rw [if_neg (by rw [hz]; exact Bool.false_ne_true)] at h
       cases hz4 : isZ4 b with
       | true =>
        have eb : b = .zip4 := by cases b <;> first | rfl | cases hz4
        subst eb
        rw [if_pos hz4] at h
        split at h
        · simp only [Bool.and_eq_true, decide_eq_true_eq] at h
          obtain ⟨⟨⟨⟨⟨⟨⟨h1, h2⟩, h3⟩, h4⟩, h5⟩, h6⟩, h7⟩, h8⟩ := h
          subst h1
          subst h2
          obtain ⟨ha, hb, h0⟩ := mes_ok es c W X _ ok h8
          obtain ⟨n1, n2⟩ := few_split h7
          exact t3 rfl (sE_zip4 ok.calm (gl_ok ok h3).1 (bi_ok ok h5) (gl_ok ok h4).1 (bi_ok ok h6) (star_cons n1 _ _) (star_any _ _ n2) ha)
        · cases h
       | false =>
        rw [if_neg (by rw [hz4]; exact Bool.false_ne_true)] at h
        simp only [Bool.and_eq_true] at h
        obtain ⟨⟨⟨⟨h2, h3⟩, h4⟩, h5⟩, h6⟩ := h
        have e := of_decide_eq_true h2
        subst e
        obtain ⟨ha, hb, h0⟩ := mes_ok es c W X _ ok h6
        obtain ⟨n1, n2⟩ := few_split h5
        have hb : fusB b = false := by cases b <;> first | rfl | (cases hz; done) | (cases hz4; done)
        obtain ⟨g1, g2⟩ := gl_ok ok h3
        exact t3 rfl (sE_bf ok.calm (ok.more X rfl rfl rfl rfl rfl rfl ok.calm) hb g1 (bi_ok ok h4) (bf_boot b hb) (bf_main b).1 g2 (star_cons n1 _ _) (star_any _ _ n2) ha)
    | [], _, h => simp only [mE] at h; cases h
    | _ :: _, _ :: _, h => simp only [mE] at h; cases h
  | .bm b a es, c, W, X, x, ok, h => by
    cases x <;> first | (simp only [mE] at h; cases h; done) | skip
    rename_i fn xs ks pos
    cases fn <;> first | (simp only [mE] at h; cases h; done) | skip
    rename_i o m' ap
    match ks, h with
    | [], h =>
      simp only [mE, Bool.and_eq_true] at h
      obtain ⟨⟨⟨⟨⟨h1, h2⟩, h3⟩, h4⟩, h5⟩, h6⟩ := h
      have e := of_decide_eq_true h1
      subst e
      obtain ⟨ha, hb, h0⟩ := mes_ok es c W X _ ok h6
      have ho := (me_ok a c W X _ ok h5).pe
      cases xs with
      | nil =>
        cases h0 rfl
        exact t3 rfl (sE_bm0 (un65 ok.rm) (baseB_ok h2 _ _) h4 ho)
      | cons y ys => exact t3 rfl (sE_bm (un65 ok.rm) (baseB_ok h2 _ _) h3 h4 ho ha)
    | _ :: _, h => simp only [mE] at h; cases h
  | .comp elt t kk src d, c, W, X, x, ok, h => by
    cases x <;> first | (simp only [mE] at h; cases h; done) | skip
    rename_i x gens scope pos
    match gens, h with
    | [⟨tg, iter, ifs, as⟩], h =>
      have ha0 : as = 0 := by
        apply Classical.byContradiction
        intro ha
        unfold mE at h
        split at h <;> first | (simp at h; done) | skip
        all_goals simp_all
      subst ha0
      have h : (mEs gi src c (argsOf kk iter) && srcB gi c kk tg iter && notSet iter && blkC c.N c.sc scope ((tgIx t).map fun i => ((c.N[i]?).getD "", i)) &&
        tgB ⟨c.N, relS scope c.sc, scope⟩ t tg && mE gi elt ⟨c.N, relS scope c.sc, scope⟩ x && (match (generalizing := false) ifs with
          | [] => isNo d
          | [y] => !isNo d && !isIte d && mE gi d ⟨c.N, relS scope c.sc, scope⟩ y
          | _ => false)) = true := h
      simp only [Bool.and_eq_true] at h
      obtain ⟨⟨⟨⟨⟨⟨h1, h2⟩, h3⟩, h4⟩, h5⟩, h6⟩, h7⟩ := h
      obtain ⟨ha, hb, h0⟩ := mes_ok src c W X _ ok h1
      refine t3 rfl (m_comp ok h4 h3 (m_src ok h2 ha fun e => ?_) h5 (fun Y oY => (me_ok elt _ W0 Y _ oY h6).pe) fun Y oY => ?_)
      · subst e
        cases src with
        | nil => simp only [argsOf, mEs] at h1; cases h1
        | cons e r =>
          cases r with
          | nil =>
            simp only [argsOf, mEs, Bool.and_eq_true] at h1
            exact ⟨e, rfl, (me_ok e c W X _ ok h1.1.2).pe⟩
          | cons e2 r => simp [argsOf, mEs] at h1
      · match ifs, h7 with
        | [], h7 =>
          rw [isNo_ok h7]
          exact ⟨fun pins s sg H Q I ⟨rho, fr, s1, R, F, q⟩ => pts_nil.run pins s sg H Q I (q.ret R _ rfl)⟩
        | [y], h7 =>
          simp only [Bool.and_eq_true, Bool.not_eq_true'] at h7
          have t := (me_ok d _ W0 Y _ oY h7.2).pt h7.1.2
          refine ⟨fun pins s sg H Q I ⟨rho, fr, s1, R, F, q⟩ => (pts_one t).run pins s sg H Q I ⟨rho, fr, s1, R, F, ?_⟩⟩
          cases d <;> first | (simp [isNo] at h7; done) | exact q
        | _ :: _ :: _, h7 => cases h7
    | [], h => simp [mE] at h
    | _ :: _ :: _, h => simp [mE] at h
  | .comp2 elt t k src t1 k1 src1, c, W, X, x0, ok, h => by
    have key : ∃ x tg iter tg1 iter1 scope pos, x0 = .ListComp x [⟨tg, iter, [], 0⟩, ⟨tg1, iter1, [], 0⟩] scope pos ∧ (mEs gi src c (argsOf k iter) && srcB gi c k tg iter && notSet iter && notSet iter1 && blkC c.N c.sc scope ((tgIx t ++ tgIx t1).map fun i => ((c.N[i]?).getD "", i)) && tgB ⟨c.N, relS scope c.sc, scope⟩ t tg && tgB ⟨c.N, relS scope c.sc, scope⟩ t1 tg1 && mEs gi src1 ⟨c.N, relS scope c.sc, scope⟩ (argsOf k1 iter1) && srcB gi ⟨c.N, relS scope c.sc, scope⟩ k1 tg1 iter1 && mE gi elt ⟨c.N, relS scope c.sc, scope⟩ x) = true := by
      unfold mE at h
      split at h <;> first | (simp at h; done) | skip
      all_goals first | contradiction | skip
      all_goals first | (simp_all; done) | skip
      all_goals (rename_i heq; cases heq; exact ⟨_, _, _, _, _, _, _, rfl, h⟩)
    obtain ⟨x, tg, iter, tg1, iter1, scope, pos, rfl, hk⟩ := key
    clear h
    simp only [Bool.and_eq_true] at hk
    obtain ⟨⟨⟨⟨⟨⟨⟨⟨⟨h1, h2⟩, h3⟩, h4⟩, h5⟩, h6⟩, h7⟩, h8⟩, h9⟩, h10⟩ := hk
    obtain ⟨ha, hb, h0⟩ := mes_ok src c W X _ ok h1
    refine t3 rfl (m_comp2 ok h5 h3 h4 (m_src ok h2 ha fun e => ?_) h6 (fun Y oY => m_src oY h9 (mes_ok src1 _ W0 Y _ oY h8).1 fun e => ?_) h7 fun Y oY => (me_ok elt _ W0 Y _ oY h10).pe)
    · subst e
      cases src with
      | nil => simp only [argsOf, mEs] at h1; cases h1
      | cons e r =>
        cases r with
        | nil =>
          simp only [argsOf, mEs, Bool.and_eq_true] at h1
          exact ⟨e, rfl, (me_ok e c W X _ ok h1.1.2).pe⟩
        | cons e2 r => simp [argsOf, mEs] at h1
    · subst e
      cases src1 with
      | nil => simp only [argsOf, mEs] at h8; cases h8
      | cons e r =>
        cases r with
        | nil =>
          simp only [argsOf, mEs, Bool.and_eq_true] at h8
          exact ⟨e, rfl, (me_ok e _ W0 Y _ oY h8.1.2).pe⟩
        | cons e2 r => simp [argsOf, mEs] at h8
  | .isi a ts, c, W, X, x, ok, h => by
    cases x <;> first | (simp only [mE] at h; cases h; done) | skip
    rename_i fn xs ks pos
    cases fn <;> first | (simp only [mE] at h; cases h; done) | skip
    rename_i n p
    match ts, xs, ks, h with
    | [t], [x, y], [], h =>
      cases y <;> first | (simp only [mE] at h; cases h; done) | skip
      rename_i y p2
      simp only [mE, Bool.and_eq_true] at h
      obtain ⟨⟨⟨⟨⟨h1, h2⟩, h3⟩, h4⟩, h5⟩, h6⟩ := h
      have e := of_decide_eq_true h1
      subst e
      obtain ⟨g1, _⟩ := gl_ok ok h2
      obtain ⟨w, hw1, hw2, hw3⟩ := ty_ok (p := p2) ok h5
      have isf : IsF X.K ad.ca g.pg := by rw [ok.gp]; exact ok.pr.isf
      exact t3 rfl (sE_isi (p2 := pos) isf (by rw [ok.gp]; exact hw3) g1 (bi_ok ok h3) (by unfold fewArgs; rw [List.all_cons, h4]; rfl) hw1 hw2 (me_ok a c W X _ ok h6).pe)
    | [], _, _, h => simp [mE] at h
    | _ :: _ :: _, _, _, h => simp [mE] at h
    | [t], [], _, h => simp [mE] at h
    | [t], [_], _, h => simp [mE] at h
    | [t], _ :: _ :: _ :: _, _, h => simp [mE] at h
    | [t], [_, _], _ :: _, h => simp [mE] at h
  | .fstr a, c, W, X, x, ok, h => by
    cases x <;> first | (simp only [mE] at h; cases h; done) | skip
    rename_i vs pos
    have key : ∃ y p, vs = [.FormattedValue y (-1) none p] ∧ mE gi a c y = true := by
      unfold mE at h
      split at h <;> first | (simp at h; done) | skip
      all_goals simp_all
    obtain ⟨y, p, rfl, h⟩ := key
    exact t3 rfl (sE_fstr (me_ok a c W X _ ok h).pe)
theorem mes_ok : ∀ (es : Es) (c : C) (W : WX) (X : Cx) (xs : List Expr), Cok gi ad g W k c X → mEs gi es c xs = true → PA X xs (tIs X.K ad.ca gi.xn g W es) ∧ xs.all noStar = true ∧ (xs = [] → es = .nil)
  | .nil, c, W, X, [], ok, h => ⟨sA_nil, rfl, fun _ => rfl⟩
  | .nil, c, W, X, _ :: _, ok, h => by simp only [mEs] at h; cases h
  | .cons e r, c, W, X, [], ok, h => by simp only [mEs] at h; cases h
  | .cons e r, c, W, X, x :: xs, ok, h => by
    simp only [mEs, Bool.and_eq_true] at h
    obtain ⟨h1, h2, _⟩ := mes_ok r c W X xs ok h.2
    exact ⟨sA_cons (me_ok e c W X x ok h.1.2).pe h1 (star_cons h.1.1 _ _), by rw [List.all_cons, h.1.1, h2]; rfl, fun z => by cases z⟩
end
end PI
end

section
set_option Elab.async false
set_option linter.all false
set_option maxRecDepth 100000
/-! PyM3: statements: are they ours, and what that is good for. -/
namespace PI
open PySem PySem.Spec PyProof.Rows L2 TL RZ
def fnKind (c : C) : Bool := match c.sc.kind with
  | .function => true
  | _ => false
theorem fnKind_ok {c : C} (h : fnKind c = true) : c.sc.kind = .function := by
  unfold fnKind at h
  split at h
  · assumption
  · cases h
/-- no stores are exchanged -/
def cellN (c : C) : Expr → Bool
  | .Name x _ => decide (c.sc.names.lookup x = some .cell)
  | _ => false
def swB (c : C) : Expr → Expr → Bool
  | .Tuple ts _ _, .Tuple vs _ _ => !(ts.length == 2 || ts.length == 3) || ts.any (cellN c)
  | .List _ _, .Tuple _ _ _ => false
  | _, _ => true
theorem fm_less {α β : Type} {f : α → Option β} {l : List α} {a : α} (m : a ∈ l) (h : f a = none) : ((l.filterMap f).length != l.length) = true := by
  rw [bne_iff_ne]
  intro e
  have := List.filterMap_length_eq_length.mp e a m
  rw [h] at this
  cases this
theorem swB_ok {c : C} {t v : Expr} (h : swB c t v = true) (env : Env) (hs : env.scope = c.sc) : swappedStores [t] v env = pure none := by
  cases t with
  | Tuple ts k p =>
    cases v with
    | Tuple vs k2 p2 =>
      have h : (!(ts.length == 2 || ts.length == 3) || ts.any (cellN c)) = true := h
      rw [Bool.or_eq_true] at h
      rcases h with h | h
      · unfold swappedStores
        simp only [h, Bool.true_or, if_true]
      · obtain ⟨x, m, hx⟩ := List.any_eq_true.mp h
        unfold swappedStores
        simp only
        split
        · rfl
        · split
          · rfl
          · rw [if_pos]
            rw [Bool.or_eq_true]
            refine .inl (fm_less m ?_)
            cases x <;> first | cases hx; done | skip
            rename_i y q
            have e : env.kindOf y = some .cell := by
              have e2 : c.sc.names.lookup y = some .cell := of_decide_eq_true hx
              rw [← hs] at e2
              exact e2
            simp only [e]
            rfl
    | _ => rfl
  | List ts p => cases v <;> first | rfl | cases h
  | _ => cases v <;> rfl
def asgT : Expr → Bool
  | .Name _ _ => true | .Tuple _ _ _ => true | .Subscript _ _ _ => true | .Attribute _ _ _ => true | _ => false
theorem asgT_ok {t : Expr} (h : asgT t = true) (env : Env) : (assignEach [t] env).map (·.2) = [assign t env] := by
  cases t <;> first | rfl | cases h
theorem fld_sw {v : Expr} {o : Expr} {f : Str} {p : Pos} (l : Nat) (env : Env) : swapsWith v (some (.Attribute o f p)) l env = pure false := by
  cases v <;> rfl
theorem sub_asg {o i : Expr} {p : Pos} {env : Env} (h : noSlice i = true) : ∀ v, assign (.Subscript o i p) env v = (do
      let ov ← holding [v] (eval o env)
      let iv ← holding [v, ov] (eval i env)
      standAt p
      holding [v, ov, iv] (setItem ov iv v)
      release [v, ov, iv] []) := by
  intro v
  cases i <;> first | rfl | cases h
def setLcB (c : C) (y : Str) (py : Pos) (x : Expr) : Bool := match x with
  | .ListComp _ _ scope pos => fnKind c && decide (c.sc.names.lookup y = some .local) && (py.line == pos.line) && !(scope.names.any fun (n, k) => n == y && (k == .local || k == .cell))
  | _ => false
def parB (c : C) (i j : Nat) (x y : Str) (px py : Pos) (a b : Expr) : Bool :=
  fnKind c && decide (c.N[i]? = some x) && decide (c.N[j]? = some y) && decide (i ≠ j) && decide (x ≠ y) && decide (c.sc.names.lookup x = some .local) && decide (c.sc.names.lookup y = some .local) && noStar a && noStar b && (py.line == px.line) &&
    !([a, b].all (foldedForSure 8)) && !([a, b].all (constantsAlone 8))
theorem par_sw {env : Env} {x y : Str} {px py pt : Pos} {kt k2 pt2} {a b : Expr} (hk : env.scope.kind = .function) (hx : env.scope.names.lookup x = some .local) (hy : env.scope.names.lookup y = some .local) (hne : x ≠ y) (ha : noStar a = true) (hb : noStar b = true) (hl : (py.line == px.line) = true)
    (h1 : [a, b].all (foldedForSure 8) = false) (h2 : [a, b].all (constantsAlone 8) = false) : swappedStores [.Tuple [.Name x px, .Name y py] kt pt] (.Tuple [a, b] k2 pt2) env = pure (some [x, y]) := by
  have hbk : env.blockKind = .function := by unfold Env.blockKind; rw [hk]; rfl
  have kx : env.kindOf x = some .local := hx
  have ky : env.kindOf y = some .local := hy
  have ed : [x, y].eraseDups = [x, y] := by
    simp [List.eraseDups_cons, hne, Ne.symm hne]
  have st : ∀ {z : Expr} (f : Expr → Bool), (∀ w, noStar w = true → f w = false) → noStar z = true → f z = false := fun f h hz => h _ hz
  have nst : ∀ (f : Expr → Bool), (∀ w, noStar w = true → f w = false) → ([a, b].any f) = false := fun f h => by simp [h a ha, h b hb]
  unfold swappedStores
  have e1 : (!([Expr.Name x px, Expr.Name y py].length == 2 || [Expr.Name x px, Expr.Name y py].length == 3) || [a, b].length != [Expr.Name x px, Expr.Name y py].length || env.blockKind != .function) = false := by rw [hbk]; rfl
  simp only [e1, Bool.false_eq_true, if_false]
  rw [nst _ (fun w hw => by cases w <;> first | rfl | cases hw)]
  simp only [h1, h2, kx, ky, hl, List.filterMap_cons, List.filterMap_nil, Expr.pos, List.head?_cons, Option.map_some, Option.getD_some, Bool.false_eq_true, if_false]
  simp [ed]
/-- three names at once -/
def parB3 (c : C) (i j l : Nat) (x y z : Str) (px py pz : Pos) (a b d : Expr) : Bool :=
  (fnKind c && decide (c.N[i]? = some x) && decide (c.N[j]? = some y) && decide (c.N[l]? = some z)) && (decide (i ≠ j) && decide (i ≠ l) && decide (j ≠ l)) && (decide (x ≠ y) && decide (x ≠ z) && decide (y ≠ z)) &&
    (decide (c.sc.names.lookup x = some .local) && decide (c.sc.names.lookup y = some .local) && decide (c.sc.names.lookup z = some .local)) && (noStar a && noStar b && noStar d) && (py.line == px.line && pz.line == px.line) &&
    (!([a, b, d].all (foldedForSure 8)) && !([a, b, d].all (constantsAlone 8)))
theorem par_sw3 {env : Env} {x y z : Str} {px py pz pt : Pos} {kt k2 pt2} {a b d : Expr} (hk : env.scope.kind = .function) (hx : env.scope.names.lookup x = some .local) (hy : env.scope.names.lookup y = some .local) (hz : env.scope.names.lookup z = some .local) (n1 : x ≠ y) (n2 : x ≠ z) (n3 : y ≠ z)
    (ha : noStar a = true) (hb : noStar b = true) (hd : noStar d = true) (l1 : (py.line == px.line) = true) (l2 : (pz.line == px.line) = true) (h1 : [a, b, d].all (foldedForSure 8) = false) (h2 : [a, b, d].all (constantsAlone 8) = false) :
    swappedStores [.Tuple [.Name x px, .Name y py, .Name z pz] kt pt] (.Tuple [a, b, d] k2 pt2) env = pure (some [x, y, z]) := by
  have hbk : env.blockKind = .function := by unfold Env.blockKind; rw [hk]; rfl
  have kx : env.kindOf x = some .local := hx
  have ky : env.kindOf y = some .local := hy
  have kz : env.kindOf z = some .local := hz
  have ed : [x, y, z].eraseDups = [x, y, z] := by
    simp [List.eraseDups_cons, n1, n2, n3, Ne.symm n1, Ne.symm n2, Ne.symm n3]
  have nst : ∀ (f : Expr → Bool), (∀ w, noStar w = true → f w = false) → ([a, b, d].any f) = false := fun f h => by simp [h a ha, h b hb, h d hd]
  unfold swappedStores
  have e1 : (!([Expr.Name x px, Expr.Name y py, Expr.Name z pz].length == 2 || [Expr.Name x px, Expr.Name y py, Expr.Name z pz].length == 3) || [a, b, d].length != [Expr.Name x px, Expr.Name y py, Expr.Name z pz].length || env.blockKind != .function) = false := by rw [hbk]; rfl
  simp only [e1, Bool.false_eq_true, if_false]
  rw [nst _ (fun w hw => by cases w <;> first | rfl | cases hw)]
  simp only [h1, h2, kx, ky, kz, l1, l2, List.filterMap_cons, List.filterMap_nil, Expr.pos, List.head?_cons, Option.map_some, Option.getD_some, Bool.false_eq_true, if_false]
  simp [ed]
def asg3B (gi : GI) (c : C) (t : Tg) (e : E) (tg x : Expr) : Bool := match t, e, tg, x with
  | .tup [i, j, l], .tup (.cons ia (.cons ib (.cons ic .nil))), .Tuple [.Name x px, .Name y py, .Name z pz] _ _, .Tuple [a, b, d] _ _ => parB3 c i j l x y z px py pz a b d && mE gi ia c a && mE gi ib c b && mE gi ic c d
  | _, _, _, _ => false
/-- a comprehension that goes to a cell -/
theorem cell_sw {e : Expr} {y : Str} {py : Pos} {l : Nat} {env : Env} (h : env.scope.names.lookup y = some .cell) : swapsWith e (some (.Name y py)) l env = pure false := by
  have k : env.kindOf y = some .cell := h
  have f : (NameKind.cell == NameKind.local) = false := by decide
  have f2 : (some NameKind.cell == some NameKind.local) = false := by decide
  cases e <;> first | rfl | (unfold swapsWith; simp [k, f, f2]; done) | (unfold swapsWith; simp only [k, f, f2, Bool.and_false, Bool.false_and]; rfl)
/-- where a def's statements stand -/
def Pas (X : Cx) : Prop := PassesOwn (model X.prog X.w) X.A X.env X.xe ∧ X.stack = X.env :: X.outer ∧ X.env.frame = some X.env.locals
/-- a constant, written -/
def litB (v : Val) (x : Expr) : Bool := match v, x with
  | .str z, .Constant (.str y) _ _ => decide (toS z = y) && okT z
  | .bl b, .Constant (.bool d) _ _ => b == d
  | .int i, .Constant (.int j) _ _ => decide (i = j)
  | .non, .Constant .none _ _ => true
  | _, _ => false
theorem litB_ok {X : Cx} {v : Val} {x : Expr} (h : litB v x = true) : PE X x (tC (kv v)) ∧ kOk v = true := by
  unfold litB at h
  split at h
  · rw [Bool.and_eq_true] at h
    have e := of_decide_eq_true h.1
    rw [← e]
    exact ⟨pe_str, h.2⟩
  · have := eq_of_beq h; subst this; exact ⟨pe_bl, rfl⟩
  · cases of_decide_eq_true h; exact ⟨pe_int, rfl⟩
  · exact ⟨pe_non, rfl⟩
  · cases h
/-- the clause's name -/
def nmB (c : C) (nm : Option Nat) (hn : Option Str) : Bool := match nm, hn with
  | some i, some n => decide (c.N[i]? = some n) && decide (c.sc.names.lookup n = some .local) && !(n == ("__debug__" : Str)) && !(n == ("__classdict__" : Str))
  | none, none => true
  | _, _ => false
/-- what stands in the clause -/
def hEa (nm : Option Nat) (hn : Option Str) (e : E) (x : Expr) : Bool := match e, x with
  | .k v, x => litB v x
  | .xat f, .Attribute (.Name n _) f' _ => decide (f = f') && decide (hn = some n) && nm.isSome
  | _, _ => false
def hEs (nm : Option Nat) (hn : Option Str) : Es → List Expr → Bool
  | .nil, [] => true
  | .cons e r, x :: xs => noStar x && hEa nm hn e x && hEs nm hn r xs
  | _, _ => false
def hEb (nm : Option Nat) (hn : Option Str) (e : E) (x : Expr) : Bool := hEa nm hn e x || (match e, x with
  | .lst es, .List xs _ => hEs nm hn es xs
  | .tup es, .Tuple xs _ _ => hEs nm hn es xs
  | _, _ => false)
def yesB (gi : GI) (c : C) (nm : Option Nat) (hn : Option Str) (j j2 : Nat) (f y y' y2 i1 i2 e1 e2 n f' c1 c2 : Str) : Bool :=
  (decide (i1 = "isinstance") && decide (i2 = "isinstance") && gl c "isinstance" && gi.bi.contains "isinstance") && (decide (hn = some e1) && decide (hn = some e2) && decide (hn = some n)) && (decide (f = f') && decide (y' = y) && (match nm with
    | some i => decide (i ≠ j)
    | none => false)) &&
    (decide (c.N[j]? = some y) && decide (c.sc.names.lookup y = some .local) && !(y == ("__debug__" : Str)) && !(y == ("__classdict__" : Str))) && (decide (c.N[j2]? = some y2) && decide (c.sc.names.lookup y2 = some .local)) &&
    (gl c c1 && gl c c2 && decide (c2 = "ValueError") && gi.bi.contains "ValueError") && (match gi.gc.lookup c1 with
    | some d => gi.gc.all fun q => !decide ((gi.pg.cs q.2).bind (·.xf) = some f) || (gi.ky.contains (q.2, some d) && gi.ky.contains (q.2, none))
    | none => false)
def mH (gi : GI) (c : C) (nm : Option Nat) (hn : Option Str) (su : Ts) (st : List Stmt) : Bool := match su, st with
  | .cons (.asg (.var j) e) .nil, [.Assign [.Name y _] x _] => decide (c.N[j]? = some y) && decide (c.sc.names.lookup y = some .local) && notComp x && hEb nm hn e x
  | .cons (.ret e) .nil, [.Return (some x) _] => hEb nm hn e x
  | .cons (.asg (.var j) (.k (.bl true))) (.cons (.asg (.var j2) (.xat f)) .nil), [.Assign [.Name y _] (.BoolOp .And [.Call (.Name i1 _) [.Name e1 _, .Name c1 _] [] _, .Call (.Name i2 _) [.Name e2 _, .Name c2 _] [] _] _) _, .Assign [.Name y2 _] (.IfExp (.Name y' _) (.Attribute (.Name n _) f' _) (.Constant (.str _) _ _) _) _] =>
    yesB gi c nm hn j j2 f y y' y2 i1 i2 e1 e2 n f' c1 c2
  | _, _ => false
/-- one clause -/
def clB (gi : GI) (c : C) (d : Nat) (nm : Option Nat) (su : Ts) (h : ExceptHandler) : Bool := match h with
  | .ExceptHandler (some (.Name x _)) hn (s0 :: ss) _ => gl c x && (match gi.gc.lookup x with
    | some d' => decide (d = d')
    | none => false) && (gi.pg.cs d).any (·.exc) && nmB c nm hn && mH gi c nm hn su (s0 :: ss)
  | _ => false
section
variable (gi : GI)
mutual
def mT : T → C → Stmt → Bool
  | .no, _, _ => true
  | .pass, _, .Pass _ => true
  | .ex e, c, .Expr x _ => notComp x && mE gi e c x
  | .ret e, c, .Return (some x) _ => mE gi e c x
  | .ret e, _, .Return none _ => isNon e
  | .asg t e, c, .Assign [tg] x _ => asgT tg && tgB c t tg && (match tg with
    | .Name y py => (notComp x && mE gi e c x) || (setLcB c y py x && mE gi e c x) || (decide (c.sc.names.lookup y = some .cell) && mE gi e c x)
    | _ => (notComp x && swB c tg x && mE gi e c x) || asg3B gi c t e tg x)
  | .par i j a b, c, .Assign [.Tuple [.Name x px, .Name y py] _ _] (.Tuple [u, v] _ _) _ => parB c i j x y px py u v && mE gi a c u && mE gi b c v
  | .sub a b e, c, .Assign [.Subscript x y _] z _ => notComp z && noSlice y && mE gi e c z && mE gi a c x && mE gi b c y
  | .fld a f e, c, .Assign [.Attribute x f' _] z _ => decide (f = f') && mE gi a c x && mE gi e c z
  | .aug i o e, c, .AugAssign (.Name n _) p x _ => opB o p && tgN c i (.Name n ⟨0, 0, 0, 0⟩) && mE gi e c x
  | .ite d a b, c, .If x s1 s2 _ => !isIte d && mE gi d c x && mTs a c s1 && mTs b c s2
  | .loop t k src b, c, .For tg iter body [] _ => mEs gi src c (argsOf k iter) && srcB gi c k tg iter && notSet iter && tgB c t tg && mTs b c body
  | .wh d b, c, .While x body [] _ => !isIte d && mE gi d c x && mTs b c body
  | .raise d e, c, .Raise (some (.Call (.Name n _) [x] [] _)) none _ => gl c n && (match gi.gc.lookup n with
    | some d' => decide (d = d')
    | none => false) && ((gi.pg.cs d).bind (·.xf)).isSome && !isNo e && noStar x && mE gi e c x
  | .raise d e, c, .Raise (some (.Call (.Name n _) [] [] _)) none _ => gl c n && (match gi.gc.lookup n with
    | some d' => decide (d = d')
    | none => false) && ((gi.pg.cs d).any fun k => k.exc && k.xf.isNone) && isNo e
  | .tr b d nm su, c, .Try body hds [] [] _ => (match hds.reverse with
    | [h] => clB gi c d nm su h && mTs b c body
    | h :: h' :: r => clB gi c d nm su h && (match b with
      | .cons t .nil => mTr t c body (h' :: r)
      | _ => false)
    | [] => false)
  | _, _, _ => false
def mTs : Ts → C → List Stmt → Bool
  | .nil, _, [] => true
  | .cons t r, c, x :: xs => mT t c x && mTs r c xs
  | _, _, _ => false
def mTr : T → C → List Stmt → List ExceptHandler → Bool
  | .tr b d nm su, c, body, rhs => (match rhs with
    | [h] => clB gi c d nm su h && mTs b c body
    | h :: h' :: r => clB gi c d nm su h && (match b with
      | .cons t .nil => mTr t c body (h' :: r)
      | _ => false)
    | [] => false)
  | _, _, _, _ => false
end
end
section
variable {gi : GI} {ad : Ad} {g : G} {W : WX} {k : Nat} {c : C} {X : Cx}
theorem tgN_loc (ok : Cok gi ad g W k c X) {i : Nat} {n : Str} {p : Pos} (h : tgN c i (.Name n p) = true) : X.N[i]? = some n ∧ Loc X.env.scope n ∧ (X.fn n = true ∨ X.env.scope.names.lookup n = some .local) := by
  unfold tgN at h
  simp only [Bool.and_eq_true, Bool.or_eq_true, decide_eq_true_eq] at h
  refine ⟨by rw [ok.N]; exact h.1, ?_⟩
  rcases h.2 with h2 | h2
  · exact ⟨.inl (by rw [ok.sc]; exact h2), .inr (by rw [ok.sc]; exact h2)⟩
  · exact ⟨.inr (by rw [ok.sc]; exact h2.1), .inl (ok.fn _ h2.2)⟩
theorem mE_two {elt : E} {t t1 : Tg} {k2 k1 : Ik} {src src1 : Es} {x0 : Expr} (h : mE gi (.comp2 elt t k2 src t1 k1 src1) c x0 = true) : ∃ x tg iter tg1 iter1 scope pos, x0 = .ListComp x [⟨tg, iter, [], 0⟩, ⟨tg1, iter1, [], 0⟩] scope pos ∧ (mEs gi src c (argsOf k2 iter) && srcB gi c k2 tg iter && notSet iter && notSet iter1 && blkC c.N c.sc scope ((tgIx t ++ tgIx t1).map fun i => ((c.N[i]?).getD "", i)) && tgB ⟨c.N, relS scope c.sc, scope⟩ t tg && tgB ⟨c.N, relS scope c.sc, scope⟩ t1 tg1 && mEs gi src1 ⟨c.N, relS scope c.sc, scope⟩ (argsOf k1 iter1) && srcB gi ⟨c.N, relS scope c.sc, scope⟩ k1 tg1 iter1 && mE gi elt ⟨c.N, relS scope c.sc, scope⟩ x) = true := by
  unfold mE at h
  split at h <;> first | (simp at h; done) | skip
  all_goals first | contradiction | skip
  all_goals first | (simp_all; done) | skip
  all_goals (rename_i heq; cases heq; exact ⟨_, _, _, _, _, _, _, rfl, h⟩)
theorem m_asgLc (ok : Cok gi ad g W k c X) {t : Tg} {ie : E} {y : Str} {py spos : Pos} {x : Expr} (ht : tgB c t (.Name y py) = true) (hs : setLcB c y py x = true) (hx : mE gi ie c x = true) : PS X (.Assign [.Name y py] x spos) (sT X.K ad.ca gi.xn g W (.asg t ie)) := by
  cases x <;> first | cases hs; done | skip
  rename_i x gens scope pos
  simp only [setLcB, Bool.and_eq_true, decide_eq_true_eq, Bool.not_eq_true'] at hs
  obtain ⟨⟨⟨h1, h2⟩, h3⟩, h4⟩ := hs
  cases t with
  | tup is => cases ht
  | var i =>
    have hi0 : c.N[i]? = some y := by
      have : tgN c i (.Name y py) = true := ht
      unfold tgN at this
      simp only [Bool.and_eq_true, decide_eq_true_eq] at this
      exact this.1
    cases ie <;> first | (simp only [mE] at hx; cases hx; done) | skip
    · rename_i v
      cases v <;> (simp [mE, kB] at hx)
    · rename_i elt t kk src d
      match gens, hx with
      | [⟨tg, iter, ifs, as⟩], hx =>
        have ha0 : as = 0 := by
          apply Classical.byContradiction
          intro ha
          unfold mE at hx
          split at hx <;> first | (simp at hx; done) | skip
          all_goals simp_all
        subst ha0
        have h : (mEs gi src c (argsOf kk iter) && srcB gi c kk tg iter && notSet iter && blkC c.N c.sc scope ((tgIx t).map fun i => ((c.N[i]?).getD "", i)) &&
          tgB ⟨c.N, relS scope c.sc, scope⟩ t tg && mE gi elt ⟨c.N, relS scope c.sc, scope⟩ x && (match (generalizing := false) ifs with
            | [] => isNo d
            | [y] => !isNo d && !isIte d && mE gi d ⟨c.N, relS scope c.sc, scope⟩ y
            | _ => false)) = true := hx
        simp only [Bool.and_eq_true] at h
        obtain ⟨⟨⟨⟨⟨⟨h1', h2'⟩, h3'⟩, h4'⟩, h5'⟩, h6'⟩, h7'⟩ := h
        obtain ⟨ha, hb, h0⟩ := mes_ok src c W X _ ok h1'
        have hsw : swapsWith (.ListComp x [⟨tg, iter, ifs, 0⟩] scope pos) (some (.Name y py)) spos.line X.env = pure true := sw_true (by rw [ok.sc]; exact fnKind_ok h1) (by rw [ok.sc]; exact h2) h3 h4
        refine m_setLc ok hi0 h2 hsw h4' h3' (m_src ok h2' ha fun e => ?_) h5' (fun Y oY => (me_ok elt _ W0 Y _ oY h6').pe) fun Y oY => ?_
        · subst e
          cases src with
          | nil => simp only [argsOf, mEs] at h1'; cases h1'
          | cons e r =>
            cases r with
            | nil =>
              simp only [argsOf, mEs, Bool.and_eq_true] at h1'
              exact ⟨e, rfl, (me_ok e c W X _ ok h1'.1.2).pe⟩
            | cons e2 r => simp [argsOf, mEs] at h1'
        · match ifs, h7' with
          | [], h7 =>
            rw [isNo_ok h7]
            exact ⟨fun pins s sg H Q I ⟨rho, fr, s1, R, F, q⟩ => pts_nil.run pins s sg H Q I (q.ret R _ rfl)⟩
          | [y], h7 =>
            simp only [Bool.and_eq_true, Bool.not_eq_true'] at h7
            have t := (me_ok d _ W0 Y _ oY h7.2).pt h7.1.2
            refine ⟨fun pins s sg H Q I ⟨rho, fr, s1, R, F, q⟩ => (pts_one t).run pins s sg H Q I ⟨rho, fr, s1, R, F, ?_⟩⟩
            cases d <;> first | (simp [isNo] at h7; done) | exact q
          | _ :: _ :: _, h7 => cases h7
      | [], h => simp [mE] at h
      | _ :: _ :: _, h => simp [mE] at h
    · rename_i elt t k2 src t1 k1 src1
      obtain ⟨x', tg, iter, tg1, iter1, scope', pos', heq, hk⟩ := mE_two hx
      cases heq
      clear hx
      simp only [Bool.and_eq_true] at hk
      obtain ⟨⟨⟨⟨⟨⟨⟨⟨⟨h1', h2'⟩, h3'⟩, h4'⟩, h5'⟩, h6'⟩, h7'⟩, h8'⟩, h9'⟩, h10'⟩ := hk
      obtain ⟨ha, hb, h0⟩ := mes_ok src c W X _ ok h1'
      have hsw : swapsWith (.ListComp x [⟨tg, iter, [], 0⟩, ⟨tg1, iter1, [], 0⟩] scope pos) (some (.Name y py)) spos.line X.env = pure true := sw_true (by rw [ok.sc]; exact fnKind_ok h1) (by rw [ok.sc]; exact h2) h3 h4
      refine m_setLc2 ok hi0 h2 hsw h5' h3' h4' (m_src ok h2' ha fun e => ?_) h6' (fun Y oY => m_src oY h9' (mes_ok src1 _ W0 Y _ oY h8').1 fun e => ?_) h7' fun Y oY => (me_ok elt _ W0 Y _ oY h10').pe
      · subst e
        cases src with
        | nil => simp only [argsOf, mEs] at h1'; cases h1'
        | cons e r =>
          cases r with
          | nil =>
            simp only [argsOf, mEs, Bool.and_eq_true] at h1'
            exact ⟨e, rfl, (me_ok e c W X _ ok h1'.1.2).pe⟩
          | cons e2 r => simp [argsOf, mEs] at h1'
      · subst e
        cases src1 with
        | nil => simp only [argsOf, mEs] at h8'; cases h8'
        | cons e r =>
          cases r with
          | nil =>
            simp only [argsOf, mEs, Bool.and_eq_true] at h8'
            exact ⟨e, rfl, (me_ok e _ W0 Y _ oY h8'.1.2).pe⟩
          | cons e2 r => simp [argsOf, mEs] at h8'
end
section
variable {gi : GI} {ad : Ad} {g : G} {W : WX} {k : Nat} {c : C} {X : Cx}
theorem gc_of {n : Str} {d : Nat} (h : (match gi.gc.lookup n with
    | some d' => decide (d = d')
    | none => false) = true) : gi.gc.lookup n = some d := by
  cases e : gi.gc.lookup n with
  | none => rw [e] at h; cases h
  | some d' => rw [e] at h; rw [of_decide_eq_true h]
theorem m_raise (ok : Cok gi ad g W k c X) {d : Nat} {e : E} {n : Str} {np q pos : Pos} {x : Expr} (h : (gl c n && (match gi.gc.lookup n with
      | some d' => decide (d = d')
      | none => false) && ((gi.pg.cs d).bind (·.xf)).isSome && !isNo e && noStar x && mE gi e c x) = true) (he : mE gi e c x = true → PE X x (tI X.K ad.ca gi.xn g W e)) : PS X (.Raise (some (.Call (.Name n np) [x] [] q)) none pos) (sT X.K ad.ca gi.xn g W (.raise d e)) := by
  simp only [Bool.and_eq_true, Bool.not_eq_true'] at h
  obtain ⟨⟨⟨⟨⟨h1, h2⟩, h3⟩, h4⟩, h5⟩, h6⟩ := h
  obtain ⟨f, hf⟩ := Option.isSome_iff_exists.mp h3
  obtain ⟨i, e1, e2, T⟩ := ok.pr.xcs d f hf
  obtain ⟨g1, g2⟩ := gl_ok ok h1
  exact sX_raise ok.calm ok.tk T.ox T.no ((ok.pr.xne d).trans hf) T.ini T.ty (T.run _ _ _ _ _) (ok.rm.mono (Nat.le_add_left 2 k)) (ok.pr.binds i e2) g1 (ok.pr.gc n d (gc_of h2)) g2 (fun z ez hz => by subst ez; subst hz; simp [isNo] at h4) (he h6) (star_cons h5 _ _)
theorem m_raise0 (ok : Cok gi ad g W k c X) {d : Nat} {e : E} {n : Str} {np q pos : Pos} (h : (gl c n && (match gi.gc.lookup n with
      | some d' => decide (d = d')
      | none => false) && ((gi.pg.cs d).any fun k => k.exc && k.xf.isNone) && isNo e) = true) : PS X (.Raise (some (.Call (.Name n np) [] [] q)) none pos) (sT X.K ad.ca gi.xn g W (.raise d e)) := by
  simp only [Bool.and_eq_true] at h
  obtain ⟨⟨⟨h1, h2⟩, h3⟩, h4⟩ := h
  rw [isNo_ok h4]
  obtain ⟨g1, g2⟩ := gl_ok ok h1
  cases e2 : gi.pg.cs d with
  | none => rw [e2] at h3; cases h3
  | some kk =>
    rw [e2] at h3
    have h3 : (kk.exc && kk.xf.isNone) = true := by simpa using h3
    rw [Bool.and_eq_true] at h3
    exact sX_raise0 ok.calm ok.tk (ok.pr.xc0 d kk e2 h3.1 (Option.isNone_iff_eq_none.mp h3.2)) g1 (ok.pr.gc n d (gc_of h2)) g2
theorem m_yes (ok : Cok gi ad g W k c X) {nm : Option Nat} {hn : Option Str} {j j2 : Nat} {f y y' y2 i1 i2 e1 e2 n f' c1 c2 : Str} {zs : Str} {zk : Nat} {p1 p2 q1 q2 r1 r2 s1 s2 pos py py2 pos1 pos2 pn1 pn2 pa pi zp : Pos} {a : Addr} {cls : Value} {d : Option Addr} {oe : Obj} {pn : List (Addr × Obj)}
    (hnm : nmB c nm hn = true) (h : yesB gi c nm hn j j2 f y y' y2 i1 i2 e1 e2 n f' c1 c2 = true) (hz : Zc cls d oe) (hf : ∃ vs, oe.data = .fields vs) :
    PSs (X.suite a ((a, oe) :: pn)) [.Assign [.Name y py] (.BoolOp .And [.Call (.Name i1 p1) [.Name e1 q1, .Name c1 r1] [] s1, .Call (.Name i2 p2) [.Name e2 q2, .Name c2 r2] [] s2] pos) pos1, .Assign [.Name y2 py2] (.IfExp (.Name y' pn1) (.Attribute (.Name n pn2) f' pa) (.Constant (.str zs) zk zp) pi) pos2]
      (tHd X.K ad.ca gi.xn a cls d nm fun x fr => exTs (g.mark x) (.cons (.asg (.var j) (.k (.bl true))) (.cons (.asg (.var j2) (.xat f)) .nil)) fr) := by
  unfold yesB at h
  simp only [Bool.and_eq_true, decide_eq_true_eq, Bool.not_eq_true'] at h
  obtain ⟨⟨⟨⟨⟨⟨⟨⟨⟨a1, a2⟩, a3⟩, a4⟩, ⟨b1, b2⟩, b3⟩, ⟨d1, d2⟩, d3⟩, ⟨⟨g1, g2⟩, g3⟩, g4⟩, l1, l2⟩, ⟨⟨m1, m2⟩, m3⟩, m4⟩, o1⟩ := h
  subst a1 a2 b1 d1 d2 m3
  cases Option.some.inj b2
  cases Option.some.inj b3
  cases nm with
  | none => cases d3
  | some i =>
    have d3 := of_decide_eq_true d3
    simp only [nmB, Bool.and_eq_true, decide_eq_true_eq, Bool.not_eq_true'] at hnm
    cases e : gi.gc.lookup c1 with
    | none => rw [e] at o1; cases o1
    | some dd =>
      rw [e] at o1
      obtain ⟨gi1, _⟩ := gl_ok ok a3
      obtain ⟨x1, x2⟩ := gl_ok ok m1
      obtain ⟨z1, z2⟩ := gl_ok ok m2
      have cl1 : PE (X.suite a ((a, oe) :: pn)) (.Name c1 r1) (tC (.ref (ad.ca dd))) := pe_glob (X := X.suite a ((a, oe) :: pn)) x1 (ok.pr.gc c1 dd e) rfl x2
      have cl2 : PE (X.suite a ((a, oe) :: pn)) (.Name "ValueError" r2) (tC (.ty "ValueError")) := pe_bltn (X := X.suite a ((a, oe) :: pn)) z1 (ok.pr.bi _ m4) rfl rfl (by decide) z2
      have kk : ∀ cc, (g.pg.cs cc).bind (·.xf) = some f → gi.ky.contains (cc, some dd) = true ∧ gi.ky.contains (cc, none) = true := fun cc hcc => by
        rw [ok.gp] at hcc
        obtain ⟨kc, e1, _⟩ := Option.bind_eq_some_iff.mp hcc
        obtain ⟨nn, hm⟩ := ok.pr.gcd cc kc e1
        have := List.all_eq_true.mp o1 _ hm
        simp only [hcc, decide_true, Bool.not_true, Bool.false_or, Bool.and_eq_true] at this
        exact this
      refine hS_yes (X := X) (pn := pn) hz hf (fun cc hcc => ?_) (fun cc hcc => ⟨ok.pr.ky1 _ _ (kk cc hcc).1, ok.pr.ky2 _ (kk cc hcc).2⟩) ok.nd (by rw [ok.N]; exact hnm.1.1.1) (.inl (by rw [ok.sc]; exact hnm.1.1.2)) hnm.1.2 hnm.2 d3 (by rw [ok.N]; exact g1) (by rw [ok.sc]; exact g2) g3 g4 (by rw [ok.N]; exact l1) (by rw [ok.sc]; exact l2) gi1 (ok.pr.bi _ a4) cl1 cl2 (fun u hu => hu) (fun u hu => hu) (pe_str (X := X.suite a ((a, oe) :: pn)))
      rw [ok.gp] at hcc
      obtain ⟨i2, _, _, T⟩ := ok.pr.xcs cc f hcc
      exact ⟨T.xf, T.no, (ok.pr.xne cc).trans hcc⟩
theorem m_cl (ok : Cok gi ad g W k c X) (hp : Pas X) {su : Ts} {d : Nat} {nm : Option Nat} {hdl : ExceptHandler} (h : clB gi c d nm su hdl = true) {Wf : Ends → WX} {hds : List ExceptHandler} (r : TailOk X Wf hds) :
    ∃ Wf2, TailOk X Wf2 (hdl :: hds) ∧ AskOk X ad.ca gi.xn g Wf Wf2 d nm su := by
  unfold clB at h
  split at h
  rotate_left
  · cases h
  rename_i x np hn s0 ss pos'
  simp only [Bool.and_eq_true] at h
  obtain ⟨⟨⟨⟨h1, h2⟩, h3⟩, h4⟩, h6⟩ := h
  obtain ⟨g1, g2⟩ := gl_ok ok h1
  have hc : Names X x (.ref (ad.ca d)) := ⟨g1, g2, .inl (ok.pr.gc x d (gc_of h2))⟩
  have em : ∀ a b2, exIs g.pg a d = some b2 → PySem.W.exmOne X.K (.ref (ad.ca a)) (.ref (ad.ca d)) = some b2 := fun a b2 e => ok.pr.exm a d b2 (by rw [← ok.gp]; exact e) h3
  have hat : ∀ {e : E} {z : Expr} {a : Addr} {oe : Obj} {cls : Value} {dd : Option Addr} {pn : List (Addr × Obj)}, Zc cls dd oe → (∃ vs, oe.data = .fields vs) → hEa nm hn e z = true →
      PE (X.suite a ((a, oe) :: pn)) z (tHe X.K ad.ca gi.xn a cls dd nm fun y fr => ev (g.mark y) fr e) := fun {e z a oe cls dd pn} hz hf q => by
    unfold hEa at q
    split at q
    · obtain ⟨q1, q2⟩ := litB_ok (X := X.suite a ((a, oe) :: pn)) q
      exact hE_k (X := X.suite a ((a, oe) :: pn)) q1 q2
    · rename_i f n p f' pp
      simp only [Bool.and_eq_true, decide_eq_true_eq] at q
      obtain ⟨⟨rfl, q2⟩, q3⟩ := q
      obtain ⟨i, rfl⟩ := Option.isSome_iff_exists.mp q3
      subst q2
      simp only [nmB, Bool.and_eq_true, decide_eq_true_eq, Bool.not_eq_true'] at h4
      refine hE_xat (fun cc hcc => ?_) hz hf (by rw [ok.N]; exact h4.1.1.1) (.inl (by rw [ok.sc]; exact h4.1.1.2)) h4.1.2 h4.2
      rw [ok.gp] at hcc
      obtain ⟨i2, _, _, T⟩ := ok.pr.xcs cc f hcc
      exact ⟨T.xf, T.no, (ok.pr.xne cc).trans hcc⟩
    · cases q
  have hats : ∀ (es : Es) (zs : List Expr) {a : Addr} {oe : Obj} {cls : Value} {dd : Option Addr} {pn : List (Addr × Obj)}, Zc cls dd oe → (∃ vs, oe.data = .fields vs) → hEs nm hn es zs = true →
      PA (X.suite a ((a, oe) :: pn)) zs (tHes X.K ad.ca gi.xn a cls dd nm fun y fr => evs (g.mark y) fr es) := fun es => by
    induction es using Es.rec (motive_1 := fun _ => True) with
    | nil =>
      intro zs a oe cls dd pn hz hf q
      cases zs with
      | nil => exact hEs_nil (X := X.suite a ((a, oe) :: pn))
      | cons z r => cases q
    | cons e r _ ih =>
      intro zs a oe cls dd pn hz hf q
      cases zs with
      | nil => cases q
      | cons z zs =>
        simp only [hEs, Bool.and_eq_true] at q
        exact hEs_cons (X := X.suite a ((a, oe) :: pn)) (hat hz hf q.1.2) (ih zs hz hf q.2) (star_cons q.1.1 _ _)
    | _ => trivial
  have he : ∀ {e : E} {z : Expr} {a : Addr} {oe : Obj} {cls : Value} {dd : Option Addr} {pn : List (Addr × Obj)}, Zc cls dd oe → (∃ vs, oe.data = .fields vs) → hEb nm hn e z = true →
      PE (X.suite a ((a, oe) :: pn)) z (tHe X.K ad.ca gi.xn a cls dd nm fun y fr => ev (g.mark y) fr e) := fun {e z a oe cls dd pn} hz hf q => by
    unfold hEb at q
    rw [Bool.or_eq_true] at q
    rcases q with q | q
    · exact hat hz hf q
    · split at q
      · rename_i es xs p2
        exact hE_lst (X := X.suite a ((a, oe) :: pn)) (hats es xs hz hf q)
      · rename_i es xs k2 p2
        exact hE_tup (X := X.suite a ((a, oe) :: pn)) (hats es xs hz hf q)
      · cases q
  have hsu : ∀ (a : Addr) (oe : Obj) (cls : Value) (dd : Option Addr) (pn : List (Addr × Obj)), Zc cls dd oe → (∃ vs, oe.data = .fields vs) → PSs (X.suite a ((a, oe) :: pn)) (s0 :: ss) (tHd X.K ad.ca gi.xn a cls dd nm fun y fr => exTs (g.mark y) su fr) := fun a oe cls dd pn hz hf => by
    unfold mH at h6
    split at h6
    · rename_i j e y py z pz heq
      simp only [Bool.and_eq_true, decide_eq_true_eq] at h6
      obtain ⟨⟨⟨z1, z2⟩, z3⟩, z4⟩ := h6
      cases heq
      exact hS_asg (X := X.suite a ((a, oe) :: pn)) (pg_name (X := X.suite a ((a, oe) :: pn)) ok.nd (by rw [← ok.N] at z1; exact z1) (.inl (by rw [← ok.sc] at z2; exact z2)) (.inr (by rw [← ok.sc] at z2; exact z2))) (show swapsWithSole [.Name y py] z pz.line X.env = pure false from swaps_ok z3 (some (.Name y py)) pz.line X.env) (by cases z <;> rfl) rfl (he hz hf z4)
    · rename_i e z pz heq
      cases heq
      exact hS_ret (X := X.suite a ((a, oe) :: pn)) (he hz hf h6)
    · rename_i heq
      cases heq
      exact m_yes ok h4 h6 hz hf
    · cases h6
  unfold nmB at h4
  split at h4
  · rename_i i n
    simp only [Bool.and_eq_true, decide_eq_true_eq, Bool.not_eq_true'] at h4
    exact cl_as hp.2.1 hp.2.2 ok.nd (by rw [ok.N]; exact h4.1.1.1) (by rw [← ok.sc] at h4; exact h4.1.1.2) hc em hsu r
  · exact cl_only hp.2.1 hp.2.2 hc em hsu r
  · cases h4
end
section
variable {gi : GI} {ad : Ad} {g : G} {k : Nat} {c : C} {W : WX} {X : Cx}
/-- what a try with several clauses comes to -/
def TrOk (gi : GI) (ad : Ad) (g : G) (c : C) (X : Cx) (body : List Stmt) (t : T) : Prop := ∀ (rhs : List ExceptHandler) (Wf : Ends → WX) (hds : List ExceptHandler), mTr gi t c body rhs = true → TailOk X Wf hds →
  ∃ (Wf2 : Ends → WX) (tb : WX → TS), TailOk X Wf2 (rhs.reverse ++ hds) ∧ rhs ≠ [] ∧ (∀ (W' : WX) (pn : List (Addr × Obj)) (xe : Value → Shared → Prop), Takes (X.tr pn xe) W' → PassesOwn (model X.prog X.w) X.A X.env xe → PSs (X.tr pn xe) body (tb W')) ∧
    ∀ (D : Ends) (sg : L2.St) (H : Hp), sg.length = X.N.length → sT X.K ad.ca gi.xn g (Wf D) t D sg H → tb (Wf2 D) D sg H
theorem m_trs (ok : Cok gi ad g W k c X) (hp : Pas X) {b su : Ts} {d : Nat} {nm : Option Nat} {body : List Stmt} (hb : ∀ (W' : WX) (Y : Cx), Cok gi ad g W' k c Y → Pas Y → mTs gi b c body = true → PSs Y body (sTs Y.K ad.ca gi.xn g W' b))
    (ht : ∀ t, b = .cons t .nil → TrOk gi ad g c X body t) : TrOk gi ad g c X body (.tr b d nm su) := by
  intro rhs Wf hds hk tl0
  cases rhs with
  | nil => simp only [mTr] at hk; cases hk
  | cons hl r =>
    cases r with
    | nil =>
      simp only [mTr, Bool.and_eq_true] at hk
      obtain ⟨Wf2, tl, ask⟩ := m_cl ok hp hk.1 tl0
      exact ⟨Wf2, fun W' => sTs X.K ad.ca gi.xn g W' b, tl, by simp, fun W' pn xe t q => hb W' (X.tr pn xe) ⟨ok.N, ok.sc, ok.nd, ok.fn, ok.calm, ok.rm, ok.gd, t, ok.pr, ok.gp, ok.cl, ok.more⟩ ⟨q, hp.2.1, hp.2.2⟩ hk.2, ask b⟩
    | cons h2 r =>
      cases b with
      | nil => simp only [mTr, Bool.and_false] at hk; cases hk
      | cons t r2 =>
        cases r2 with
        | cons t3 r3 => simp only [mTr, Bool.and_false] at hk; cases hk
        | nil =>
          simp only [mTr, Bool.and_eq_true] at hk
          obtain ⟨Wf1, tl, ask⟩ := m_cl ok hp hk.1 tl0
          obtain ⟨Wf2, tb, tl2, _, hb2, ask2⟩ := ht t rfl (h2 :: r) Wf1 (hl :: hds) hk.2 tl
          refine ⟨Wf2, tb, ?_, by simp, hb2, fun D sg H l q => ask2 D sg H l (sTs_one (ask _ D sg H l q))⟩
          have e : (hl :: h2 :: r).reverse ++ hds = (h2 :: r).reverse ++ (hl :: hds) := by simp
          rw [e]
          exact tl2
theorem m_try (ok : Cok gi ad g W k c X) (hp : Pas X) {b su : Ts} {d : Nat} {nm : Option Nat} {st : Stmt} (h : mT gi (.tr b d nm su) c st = true) (q : ∀ body, TrOk gi ad g c X body (.tr b d nm su)) : PS X st (sT X.K ad.ca gi.xn g W (.tr b d nm su)) := by
  cases st <;> first | (simp only [mT] at h; cases h; done) | skip
  rename_i body hds oe fb pos
  cases oe <;> first | (simp only [mT] at h; cases h; done) | skip
  cases fb <;> first | (simp only [mT] at h; cases h; done) | skip
  have hk : mTr gi (.tr b d nm su) c body hds.reverse = true := by
    unfold mT at h
    unfold mTr
    exact h
  obtain ⟨Wf2, tb, tl, ne, hb, ask⟩ := q body hds.reverse (fun _ => W) [] hk (fun pins D => CL.none_left hp.2.1 hp.2.2 ok.tk)
  rw [List.reverse_reverse, List.append_nil] at tl
  cases hds with
  | nil => exact absurd rfl ne
  | cons h0 hs => exact sX_tr (tb := tb) hp.2.1 hp.2.2 hb tl ask
end
variable {gi : GI} {ad : Ad} {g : G} {k : Nat}
theorem m_asg3 {gi : GI} {ad : Ad} {g : G} {W : WX} {k : Nat} {c : C} {X : Cx} {t : Tg} {e : E} {tg x : Expr} {pos : Pos} (ok : Cok gi ad g W k c X) (h : asg3B gi c t e tg x = true) : PS X (.Assign [tg] x pos) (sT X.K ad.ca gi.xn g W (.asg t e)) := by
  unfold asg3B at h
  split at h
  rotate_left
  · cases h
  simp only [Bool.and_eq_true] at h
  obtain ⟨⟨⟨h0, ha⟩, hb⟩, hd⟩ := h
  simp only [parB3, Bool.and_eq_true, decide_eq_true_eq, Bool.not_eq_true'] at h0
  obtain ⟨⟨⟨⟨⟨⟨⟨⟨⟨p1, p2⟩, p3⟩, p4⟩, ⟨q1, q2⟩, q3⟩, ⟨r1, r2⟩, r3⟩, ⟨s1, s2⟩, s3⟩, ⟨t1, t2⟩, t3⟩, u1, u2⟩, v1, v2⟩ := h0
  rw [← ok.sc] at s1 s2 s3
  exact sX_par3 ok.calm ok.nd (by rw [ok.N]; exact p2) (by rw [ok.N]; exact p3) (by rw [ok.N]; exact p4) q1 q2 q3 s1 s2 s3 t1 t2 t3 (par_sw3 (by rw [ok.sc]; exact fnKind_ok p1) s1 s2 s3 r1 r2 r3 t1 t2 t3 u1 u2 v1 v2) rfl (me_ok _ c W X _ ok ha).pe (me_ok _ c W X _ ok hb).pe (me_ok _ c W X _ ok hd).pe
mutual
theorem mt_ok : ∀ (t : T) (c : C) (W : WX) (X : Cx) (st : Stmt), Cok gi ad g W k c X → Pas X → mT gi t c st = true → PS X st (sT X.K ad.ca gi.xn g W t)
  | .no, c, W, X, st, ok, hp, h => sX_no
  | .pass, c, W, X, st, ok, hp, h => by
    cases st <;> first | (simp only [mT] at h; cases h; done) | exact sX_pass
  | .ex e, c, W, X, st, ok, hp, h => by
    cases st <;> first | (simp only [mT] at h; cases h; done) | skip
    simp only [mT, Bool.and_eq_true] at h
    exact sX_ex (swaps_ok h.1 _ _ _) (me_ok e c W X _ ok h.2).pe
  | .ret e, c, W, X, st, ok, hp, h => by
    cases st <;> first | (simp only [mT] at h; cases h; done) | skip
    rename_i v pos
    cases v with
    | none =>
      simp only [mT] at h
      rw [isNon_ok h]
      exact sX_retN
    | some x =>
      simp only [mT] at h
      exact sX_ret (me_ok e c W X _ ok h).pe
  | .asg t e, c, W, X, st, ok, hp, h => by
    have key : ∃ tg x pos, st = .Assign [tg] x pos ∧ (asgT tg && tgB c t tg && (match tg with
      | .Name y py => (notComp x && mE gi e c x) || (setLcB c y py x && mE gi e c x) || (decide (c.sc.names.lookup y = some .cell) && mE gi e c x)
      | _ => (notComp x && swB c tg x && mE gi e c x) || asg3B gi c t e tg x)) = true := by
      cases st <;> first | (simp only [mT] at h; cases h; done) | skip
      rename_i tgs x pos
      cases tgs with
      | nil => simp only [mT] at h; cases h
      | cons tg r =>
        cases r with
        | nil => exact ⟨tg, x, pos, rfl, h⟩
        | cons t2 r => simp only [mT] at h; cases h
    obtain ⟨tg, x, pos, rfl, hk⟩ := key
    clear h
    rw [Bool.and_eq_true, Bool.and_eq_true] at hk
    obtain ⟨⟨h1, h2⟩, h3⟩ := hk
    have pl : notComp x = true → swB c tg x = true → mE gi e c x = true → PS X (.Assign [tg] x pos) (sT X.K ad.ca gi.xn g W (.asg t e)) := fun a b d =>
      sX_asg (m_tg ok h2) (swaps_ok a _ _ _) (swB_ok b _ ok.sc) (asgT_ok h1 _) (me_ok e c W X _ ok d).pe
    cases tg <;> first | cases h1; done | skip
    · simp only [Bool.or_eq_true, Bool.and_eq_true] at h3
      rcases h3 with h3 | h3
      · exact pl h3.1.1 h3.1.2 h3.2
      · exact m_asg3 ok h3
    · simp only [Bool.or_eq_true, Bool.and_eq_true] at h3
      rcases h3 with h3 | h3
      · exact pl h3.1.1 h3.1.2 h3.2
      · exact m_asg3 ok h3
    · rename_i y py
      simp only [Bool.or_eq_true, Bool.and_eq_true] at h3
      rcases h3 with (h3 | h3) | h3
      · exact pl h3.1 (by cases x <;> rfl) h3.2
      · exact m_asgLc ok h2 h3.1 h3.2
      · exact sX_asg (m_tg ok h2) (show swapsWithSole [.Name y py] x pos.line X.env = pure false from cell_sw (l := pos.line) (by rw [ok.sc]; exact of_decide_eq_true h3.1)) (by cases x <;> rfl) (asgT_ok h1 _) (me_ok e c W X _ ok h3.2).pe
    · simp only [Bool.or_eq_true, Bool.and_eq_true] at h3
      rcases h3 with h3 | h3
      · exact pl h3.1.1 h3.1.2 h3.2
      · exact m_asg3 ok h3
  | .par i j a b, c, W, X, st, ok, hp, h => by
    have key : ∃ x px y py kt pt u v k2 pt2 pos, st = .Assign [.Tuple [.Name x px, .Name y py] kt pt] (.Tuple [u, v] k2 pt2) pos ∧ (parB c i j x y px py u v && mE gi a c u && mE gi b c v) = true := by
      unfold mT at h
      split at h <;> first | (simp at h; done) | skip
      all_goals first | contradiction | skip
      all_goals first | (simp_all; done) | (simp_all; exact ⟨_, _, _, _, _, _, _, _, ⟨⟨⟨⟨rfl, rfl⟩, rfl, rfl⟩, rfl, rfl⟩, rfl, rfl⟩, h⟩)
    obtain ⟨x, px, y, py, kt, pt, u, v, k2, pt2, pos, rfl, hk⟩ := key
    clear h
    simp only [Bool.and_eq_true] at hk
    obtain ⟨⟨h1, h2⟩, h3⟩ := hk
    simp only [parB, Bool.and_eq_true, decide_eq_true_eq, Bool.not_eq_true'] at h1
    obtain ⟨⟨⟨⟨⟨⟨⟨⟨⟨⟨⟨p1, p2⟩, p3⟩, p4⟩, p5⟩, p6⟩, p7⟩, p8⟩, p9⟩, p10⟩, p11⟩, p12⟩ := h1
    have hx : X.env.scope.names.lookup x = some .local := by rw [ok.sc]; exact p6
    have hy : X.env.scope.names.lookup y = some .local := by rw [ok.sc]; exact p7
    exact sX_par ok.calm ok.nd (by rw [ok.N]; exact p2) (by rw [ok.N]; exact p3) p4 hx hy p8 p9 (par_sw (by rw [ok.sc]; exact fnKind_ok p1) hx hy p5 p8 p9 p10 p11 p12) rfl (me_ok a c W X _ ok h2).pe (me_ok b c W X _ ok h3).pe
  | .sub a b e, c, W, X, st, ok, hp, h => by
    have key : ∃ to ti tp z pos, st = .Assign [.Subscript to ti tp] z pos ∧ notComp z = true ∧ noSlice ti = true ∧ mE gi e c z = true ∧ mE gi a c to = true ∧ mE gi b c ti = true := by
      unfold mT at h
      split at h <;> first | (simp at h; done) | skip
      all_goals first | contradiction | skip
      all_goals first | (simp_all; done) | (simp_all; exact ⟨_, _, _, _, ⟨⟨rfl, rfl, rfl⟩, rfl⟩, h.1.1.1.1, h.1.1.1.2, h.1.1.2, h.1.2, h.2⟩)
    obtain ⟨to, ti, tp, z, pos, rfl, h1, h2, h3, h4, h5⟩ := key
    have hsw : swapsWithSole [.Subscript to ti tp] z pos.line X.env = pure false := swaps_ok h1 (some (.Subscript to ti tp)) pos.line X.env
    exact sX_sub (pg_sub (me_ok a c W X _ ok h4).pe (me_ok b c W X _ ok h5).pe set_list (sub_asg h2)) hsw (by cases z <;> rfl) rfl (me_ok e c W X _ ok h3).pe
  | .fld a f e, c, W, X, st, ok, hp, h => by
    have key : ∃ to tp z pos, st = .Assign [.Attribute to f tp] z pos ∧ mE gi a c to = true ∧ mE gi e c z = true := by
      unfold mT at h
      split at h <;> first | (simp at h; done) | skip
      all_goals first | contradiction | skip
      all_goals first | (simp_all; done) | (simp_all; exact ⟨_, _, _, ⟨⟨rfl, rfl⟩, rfl⟩, h.1, h.2⟩) | (simp_all; exact ⟨_, _, _, ⟨⟨rfl, rfl⟩, rfl⟩, h.1.2, h.2⟩)
    obtain ⟨to, tp, z, pos, rfl, h2, h3⟩ := key
    exact sX_fld (by rw [ok.gp]; exact fun d kk => ok.pr.fld d kk _) (fld_sw _ _) (me_ok a c W X _ ok h2).pe (me_ok e c W X _ ok h3).pe
  | .aug i o e, c, W, X, st, ok, hp, h => by
    cases st <;> first | (simp only [mT] at h; cases h; done) | skip
    rename_i tg p x pos
    cases tg <;> first | (simp only [mT] at h; cases h; done) | skip
    rename_i n np
    simp only [mT, Bool.and_eq_true] at h
    obtain ⟨⟨h1, h2⟩, h3⟩ := h
    rw [opB_ok h1]
    obtain ⟨q1, q2, q3⟩ := tgN_loc ok h2
    exact sX_aug ok.nd q1 q2 q3 (me_ok e c W X _ ok h3).pe
  | .ite d a b, c, W, X, st, ok, hp, h => by
    cases st <;> first | (simp only [mT] at h; cases h; done) | skip
    simp only [mT, Bool.and_eq_true, Bool.not_eq_true'] at h
    obtain ⟨⟨⟨h1, h2⟩, h3⟩, h4⟩ := h
    exact sX_if ((me_ok d c W X _ ok h2).pt h1) (mts_sound a c W X _ ok hp h3) (mts_sound b c W X _ ok hp h4)
  | .loop t kk src b, c, W, X, st, ok, hp, h => by
    cases st <;> first | (simp only [mT] at h; cases h; done) | skip
    rename_i tg iter body orelse pos
    cases orelse <;> first | (simp only [mT] at h; cases h; done) | skip
    simp only [mT, Bool.and_eq_true] at h
    obtain ⟨⟨⟨⟨h1, h2⟩, h3⟩, h4⟩, h5⟩ := h
    obtain ⟨ha, hb, h0⟩ := mes_ok src c W X _ ok h1
    refine sX_for hp.1 ok.calm (m_src ok h2 ha fun e => ?_) (m_tg ok h4) (set_ok h3 _) (mts_sound b c W X _ ok hp h5)
    subst e
    cases src with
    | nil => simp only [argsOf, mEs] at h1; cases h1
    | cons e r =>
      cases r with
      | nil =>
        simp only [argsOf, mEs, Bool.and_eq_true] at h1
        exact ⟨e, rfl, (me_ok e c W X _ ok h1.1.2).pe⟩
      | cons e2 r => simp [argsOf, mEs] at h1
  | .wh d b, c, W, X, st, ok, hp, h => by
    cases st <;> first | (simp only [mT] at h; cases h; done) | skip
    rename_i x body orelse pos
    cases orelse <;> first | (simp only [mT] at h; cases h; done) | skip
    simp only [mT, Bool.and_eq_true, Bool.not_eq_true'] at h
    exact sX_wh hp.1 ((me_ok d c W X _ ok h.1.2).pt h.1.1) (mts_sound b c W X _ ok hp h.2)
  | .raise d e, c, W, X, st, ok, hp, h => by
    have key : (∃ n np x q pos, st = .Raise (some (.Call (.Name n np) [x] [] q)) none pos ∧ (gl c n && (match gi.gc.lookup n with
      | some d' => decide (d = d')
      | none => false) && ((gi.pg.cs d).bind (·.xf)).isSome && !isNo e && noStar x && mE gi e c x) = true) ∨ ∃ n np q pos, st = .Raise (some (.Call (.Name n np) [] [] q)) none pos ∧ (gl c n && (match gi.gc.lookup n with
      | some d' => decide (d = d')
      | none => false) && ((gi.pg.cs d).any fun k => k.exc && k.xf.isNone) && isNo e) = true := by
      unfold mT at h
      split at h <;> first | (simp at h; done) | skip
      all_goals first | contradiction | skip
      all_goals first | (simp_all; done) | skip
      all_goals (rename_i heq; cases heq; first | exact .inl ⟨_, _, _, _, _, rfl, h⟩ | exact .inr ⟨_, _, _, _, rfl, h⟩)
    rcases key with ⟨n, np, x, q, pos, rfl, hk⟩ | ⟨n, np, q, pos, rfl, hk⟩
    · exact m_raise ok hk (fun h => (me_ok e c W X _ ok h).pe)
    · exact m_raise0 ok hk
  | .tr .nil d nm su, c, W, X, st, ok, hp, h => m_try ok hp h fun body => m_trs ok hp (fun W' Y ok' hp' h' => mts_sound .nil c W' Y body ok' hp' h') (fun t e => nomatch e)
  | .tr (.cons t .nil) d nm su, c, W, X, st, ok, hp, h => m_try ok hp h fun body => m_trs ok hp (fun W' Y ok' hp' h' => mts_sound (.cons t .nil) c W' Y body ok' hp' h') (fun t' e => by cases e; exact mtr_ok t c W X body ok hp)
  | .tr (.cons t (.cons t3 r3)) d nm su, c, W, X, st, ok, hp, h => m_try ok hp h fun body => m_trs ok hp (fun W' Y ok' hp' h' => mts_sound (.cons t (.cons t3 r3)) c W' Y body ok' hp' h') (fun t e => nomatch e)
theorem mts_sound : ∀ (t : Ts) (c : C) (W : WX) (X : Cx) (st : List Stmt), Cok gi ad g W k c X → Pas X → mTs gi t c st = true → PSs X st (sTs X.K ad.ca gi.xn g W t)
  | .nil, c, W, X, [], ok, hp, h => sX_nil
  | .nil, c, W, X, _ :: _, ok, hp, h => by simp only [mTs] at h; cases h
  | .cons t r, c, W, X, [], ok, hp, h => by simp only [mTs] at h; cases h
  | .cons t r, c, W, X, x :: xs, ok, hp, h => by
    simp only [mTs, Bool.and_eq_true] at h
    exact sX_cons (mt_ok t c W X x ok hp h.1) (mts_sound r c W X xs ok hp h.2)
theorem mtr_ok : ∀ (t : T) (c : C) (W : WX) (X : Cx) (body : List Stmt), Cok gi ad g W k c X → Pas X → TrOk gi ad g c X body t
  | .tr .nil d nm su, c, W, X, body, ok, hp => m_trs ok hp (fun W' Y ok' hp' h' => mts_sound .nil c W' Y body ok' hp' h') (fun t e => nomatch e)
  | .tr (.cons t .nil) d nm su, c, W, X, body, ok, hp => m_trs ok hp (fun W' Y ok' hp' h' => mts_sound (.cons t .nil) c W' Y body ok' hp' h') (fun t' e => by cases e; exact mtr_ok t c W X body ok hp)
  | .tr (.cons t (.cons t3 r3)) d nm su, c, W, X, body, ok, hp => m_trs ok hp (fun W' Y ok' hp' h' => mts_sound (.cons t (.cons t3 r3)) c W' Y body ok' hp' h') (fun t e => nomatch e)
  | .no, c, W, X, body, ok, hp => fun rhs Wf hds hk _ => by simp only [mTr] at hk; cases hk
  | .pass, c, W, X, body, ok, hp => fun rhs Wf hds hk _ => by simp only [mTr] at hk; cases hk
  | .ex _, c, W, X, body, ok, hp => fun rhs Wf hds hk _ => by simp only [mTr] at hk; cases hk
  | .ret _, c, W, X, body, ok, hp => fun rhs Wf hds hk _ => by simp only [mTr] at hk; cases hk
  | .asg _ _, c, W, X, body, ok, hp => fun rhs Wf hds hk _ => by simp only [mTr] at hk; cases hk
  | .par _ _ _ _, c, W, X, body, ok, hp => fun rhs Wf hds hk _ => by simp only [mTr] at hk; cases hk
  | .sub _ _ _, c, W, X, body, ok, hp => fun rhs Wf hds hk _ => by simp only [mTr] at hk; cases hk
  | .fld _ _ _, c, W, X, body, ok, hp => fun rhs Wf hds hk _ => by simp only [mTr] at hk; cases hk
  | .aug _ _ _, c, W, X, body, ok, hp => fun rhs Wf hds hk _ => by simp only [mTr] at hk; cases hk
  | .ite _ _ _, c, W, X, body, ok, hp => fun rhs Wf hds hk _ => by simp only [mTr] at hk; cases hk
  | .loop _ _ _ _, c, W, X, body, ok, hp => fun rhs Wf hds hk _ => by simp only [mTr] at hk; cases hk
  | .wh _ _, c, W, X, body, ok, hp => fun rhs Wf hds hk _ => by simp only [mTr] at hk; cases hk
  | .raise _ _, c, W, X, body, ok, hp => fun rhs Wf hds hk _ => by simp only [mTr] at hk; cases hk
end
end PI
end

section
set_option Elab.async false
set_option linter.all false
set_option maxRecDepth 100000
/-! PyM4: the program's facts, from what the head tells. -/
namespace PI
open PySem PySem.Spec PyProof.Rows L2 TL RZ
def psOf (st : Stmt) : List Str := (defArgs st).args.map (·.arg)
def dName : Stmt → Str
  | .FunctionDef n _ _ _ _ _ _ _ _ _ => n
  | _ => ""
/-- one def: where it stands, is it static, its statement, its names, ours -/
structure PD where
  at_ : Str × Option Str
  stat : Bool
  st : Stmt
  qual : Str
  N : List Str
  df : Df
def kindB : ScopeKind → Bool
  | .function => true
  | _ => false
def PD.scB (d : PD) : Bool := kindB (defScope d.st).kind && !(defScope d.st).isCoroutine && !(defScope d.st).isGenerator && decide d.N.Nodup && decide (d.N.take (psOf d.st).length = psOf d.st) &&
  ((psOf d.st).all fun x => decide ((defScope d.st).names.lookup x = some .local) || decide ((defScope d.st).names.lookup x = some .cell)) && ((defScope d.st).names.all fun y => decide (y.2 ≠ .free)) &&
  decide ((psOf d.st).length = d.df.np) && decide (d.N.length = d.df.ns)
theorem PD.sc {d : PD} (h : d.scB = true) : FnScope d.N (psOf d.st) (defScope d.st) ∧ (psOf d.st).length = d.df.np ∧ d.N.length = d.df.ns := by
  unfold PD.scB at h
  simp only [Bool.and_eq_true, decide_eq_true_eq, Bool.not_eq_true', List.all_eq_true, Bool.or_eq_true] at h
  obtain ⟨⟨⟨⟨⟨⟨⟨⟨h1, h2⟩, h3⟩, h4⟩, h5⟩, h6⟩, h7⟩, h8⟩, h9⟩ := h
  refine ⟨⟨?_, h2, h3, h4, h5, h6, h7⟩, h8, h9⟩
  unfold kindB at h1
  split at h1
  · assumption
  · cases h1
/-- the def of an __init__ that sets one attribute -/
def PD.initB (d : PD) (f : Str) : Bool := d.scB && (match defBody d.st, d.N with
  | [.Assign [.Attribute (.Name n1 _) f' _] (.Name n2 _) _], [m1, m2] => decide (n1 = m1) && decide (n2 = m2) && decide (f = f') && decide (psOf d.st = [m1, m2]) && decide ((defScope d.st).names.lookup m1 = some .local) && decide ((defScope d.st).names.lookup m2 = some .local) &&
    !(m1 == ("__debug__" : Str)) && !(m2 == ("__debug__" : Str)) && !(m1 == ("__classdict__" : Str)) && !(m2 == ("__classdict__" : Str))
  | _, _ => false)
/-- ValueError's kin -/
def newVE (l : List (Option Value)) : Bool := match l with
  | a :: b :: c :: d :: e :: f :: [] => (match e with
    | some (.builtin n) => n == "ValueError.__new__"
    | _ => false)
  | _ => false
theorem newVE_ok {l : List (Option Value)} (h : newVE l = true) : ∃ a b c d f, l = [a, b, c, d, some (.builtin "ValueError.__new__"), f] := by
  unfold newVE at h
  split at h
  · split at h
    · have e := eq_of_beq h
      subst e
      exact ⟨_, _, _, _, _, rfl⟩
    · cases h
  · cases h
def veCls (K : PySem.W.Frag) (C : Addr) : Bool := match K.lookup C with
  | some o => (match o.cls with
    | .type "type" => true
    | _ => false) && newVE o.slots.toList && (match o.data with
      | .cls cd => (match cd.mro with
        | .ref C2 :: r => C2 == C && PySem.HandSPX.refsVE r
        | _ => false) && cd.hasDict && !cd.hasDel
      | _ => false)
  | none => false
def oexB (K : PySem.W.Frag) (C : Addr) : Bool := veCls K C && He.eqO (PySem.W.findIn K (.ref C) "__setattr__") (some (some (.builtin "object.__setattr__"))) && decide (PySem.W.subIn K (.ref C) (.type "BaseException") = some true) &&
  decide (PySem.W.typeIn K (.ref C) = some (.type "type")) && PySem.W.keepIn K (.ref C)
theorem oexB_ok {K : PySem.W.Frag} {C : Addr} (h : oexB K C = true) : OexC K C := by
  unfold oexB at h
  simp only [Bool.and_eq_true, decide_eq_true_eq] at h
  obtain ⟨⟨⟨⟨h1, h2⟩, h3⟩, h4⟩, h5⟩ := h
  refine ⟨?_, He.eqO_ok h2, h3, h4, h5⟩
  unfold veCls at h1
  cases q : K.lookup C with
  | none => rw [q] at h1; cases h1
  | some o =>
    rw [q] at h1
    obtain ⟨cl, dd, dt, sl⟩ := o
    simp only [Bool.and_eq_true] at h1
    obtain ⟨⟨k1, k2⟩, k3⟩ := h1
    split at k1
    · split at k3
      · rename_i cd
        simp only [Bool.and_eq_true, Bool.not_eq_true'] at k3
        obtain ⟨⟨z1, z2⟩, z3⟩ := k3
        obtain ⟨nm, bs, mro, N, qn, hd, sn, sub, ab, col, del⟩ := cd
        simp only at z1 z2 z3
        split at z1
        · rw [Bool.and_eq_true] at z1
          have e1 := eq_of_beq z1.1
          subst e1 z2 z3
          obtain ⟨a, b, c, d, f, e2⟩ := newVE_ok k2
          have e3 : sl = #[a, b, c, d, some (.builtin "ValueError.__new__"), f] := by
            obtain ⟨l⟩ := sl
            simp only at e2
            rw [e2]
          rw [e3]
          exact ⟨nm, qn, N, bs, _, sn, sub, ab, col, dd, a, b, c, d, f, rfl, z1.2⟩
        · cases z1
      · cases k3
    · cases k1
structure PCl where
  name : Str
  cl : Cl
structure PP where
  ds : List PD
  cs : List PCl
  ks : List (Str × Val)
  bi : List Str
  wf : Nat
  ky : List (Nat × Option Nat)
def numb {α : Type} : Nat → List α → List (Nat × α)
  | _, [] => []
  | n, x :: r => (n, x) :: numb (n + 1) r
theorem numb_mem {α : Type} {x : α} : ∀ {l : List α} {n i : Nat}, (i, x) ∈ numb n l → n ≤ i ∧ l[i - n]? = some x
  | [], _, _, h => by cases h
  | y :: r, n, i, h => by
    rcases List.mem_cons.mp h with h | h
    · cases h; exact ⟨Nat.le_refl _, by simp⟩
    · obtain ⟨h1, h2⟩ := numb_mem h
      refine ⟨by omega, ?_⟩
      rw [show i - n = (i - (n + 1)) + 1 by omega]
      simpa using h2
theorem mem_numb {α : Type} {x : α} : ∀ {l : List α} {n i : Nat}, l[i]? = some x → (n + i, x) ∈ numb n l
  | [], _, _, h => by simp at h
  | y :: r, n, 0, h => by simp at h; subst h; exact List.mem_cons_self
  | y :: r, n, i + 1, h => by
    have := mem_numb (n := n + 1) (l := r) (i := i) (by simpa using h)
    rw [show n + (i + 1) = n + 1 + i by omega]
    exact List.mem_cons_of_mem _ this
def PP.gi (p : PP) : GI where
  pg := ⟨fun i => p.ds[i]?.map (·.df), fun i => p.cs[i]?.map (·.cl)⟩
  wf := p.wf
  gf := (numb 0 p.ds).filterMap fun q => if q.2.at_.2.isNone then some (q.2.at_.1, q.1) else none
  gc := (numb 0 p.cs).map fun q => (q.2.name, q.1)
  gk := p.ks
  bi := p.bi
  sm := (numb 0 p.ds).filterMap fun q => match q.2.stat, q.2.at_.2 with
    | true, some m => some ((q.2.at_.1, m), q.1)
    | _, _ => none
  pn := fun i => (p.ds[i]?.map fun d => psOf d.st).getD []
  xn := fun i => (p.cs[i]?.map (·.cl)).bind (·.xf)
  ky := p.ky
section
variable (K : PySem.W.Frag)
def fAt (d : PD) : Addr := match d.stat, d.at_.2 with
  | true, some m => He5.wf K (He.ga K d.at_.1) "staticmethod" m
  | _, _ => He.fAd K d.at_
def fdAt (a : Addr) : FuncData := match K.lookup a with
  | some ⟨_, _, .func fd, _⟩ => fd
  | _ => default
def fnX (a : Addr) : He.FnW := match K.lookup a with
  | some ⟨_, _, .func fd, _⟩ => some (fd.name, fd.qualname, fd.params, fd.body, fd.scope, fd.globals, fd.closure, fd.builtins)
  | _ => none
def PD.val (d : PD) : He.FnW := some (dName d.st, d.qual, defArgs d.st, .stmts (defBody d.st), defScope d.st, mainGlobals, [], builtinsNs)
def isNoneV : Value → Bool
  | .none => true
  | _ => false
def PD.okB (d : PD) : Bool := PySem.W.keepIn K (.ref (fAt K d)) && (match K.lookup (fAt K d) with
  | some ⟨_, _, .func fd, _⟩ => PySem.W.codeIn K fd.code d.qual && isNoneV fd.defaults
  | _ => false)
end
theorem PD.funD {K : PySem.W.Frag} {d : PD} (e : fnX K (fAt K d) = d.val) (c : d.okB K = true) : FunD K (dName d.st) d.qual (defArgs d.st) (defBody d.st) (defScope d.st) [] [] (fAt K d) (fdAt K (fAt K d)) := by
  unfold PD.okB at c
  rw [Bool.and_eq_true] at c
  obtain ⟨kp, c2⟩ := c
  unfold fnX at e
  have hfd : ∀ fd oc od osl, K.lookup (fAt K d) = some ⟨oc, od, .func fd, osl⟩ → fdAt K (fAt K d) = fd := fun fd oc od osl h => by
    unfold fdAt
    rw [h]
  cases q : K.lookup (fAt K d) with
  | none => rw [q] at c2; cases c2
  | some o =>
    obtain ⟨oc, od, dt, osl⟩ := o
    rw [q] at c2 e
    cases dt with
    | func fd =>
      rw [hfd fd oc od osl q]
      obtain ⟨m1, m2, m3, m4, m5, m6, m7, m8, m9, m10, m11, m12, m13, m14, m15⟩ := fd
      have e2 : (some (m1, m2, m3, m4, m5, m6, m7, m15) : He.FnW) = some (dName d.st, d.qual, defArgs d.st, .stmts (defBody d.st), defScope d.st, mainGlobals, [], builtinsNs) := e
      simp only [Option.some.injEq, Prod.mk.injEq] at e2
      obtain ⟨h1, h2, h3, h4, h5, h6, h7, h8⟩ := e2
      subst h1 h2 h3 h4 h5 h6 h7 h8
      have c3 : (PySem.W.codeIn K m13 d.qual && isNoneV m8) = true := c2
      rw [Bool.and_eq_true] at c3
      have e8 : m8 = .none := by
        have := c3.2
        unfold isNoneV at this
        split at this
        · rfl
        · cases this
      exact ⟨⟨oc, od, m8, m9, m10, m11, m12, m13, m14, osl, rfl, q, c3.1, .inl ⟨rfl, e8⟩, .inl rfl⟩, kp⟩
    | _ => cases c2
/-! ### the look at everything -/
section
variable (K : PySem.W.Frag)
def PP.fa (p : PP) (i : Nat) : Addr := (p.ds[i]?.map (fAt K)).getD 0
def PP.ca (p : PP) (i : Nat) : Addr := (p.cs[i]?.map fun c => He.ga K c.name).getD 0
def PP.ad (p : PP) : Ad := ⟨p.fa K, fun i => fdAt K (p.fa K i), p.ca K⟩
def kvB (v : Val) (u : Option (Option Value)) : Bool := match u with
  | some (some u) => kOk v && He.relB (kv v) u
  | _ => false
def clsB (C : Addr) : Bool := PySem.W.plainGet K C Str.empty && (PySem.W.hasDictIn K C && (PySem.W.plainOver K C && He.eqO (PySem.W.findIn K (.ref C) "__setattr__") (some (some (.builtin "object.__setattr__")))))
def insB (C : Addr) : Bool := He.eqO (PySem.W.findIn K (.ref C) "__class__") (some (some (.builtin "object.__class__"))) && He.eqO (PySem.W.specialIn K (.builtin "object.__class__") "__get__") (some (some (.builtin "getset_descriptor.__get__"))) &&
  decide (PySem.W.takesIn K (.builtin "object.__class__") = some true) && decide (PySem.W.mroIn K C (.type "object") = some true)
def tagsAll : List (Option Ty) := [none, some Ty.int, some .str, some .bool, some .list, some .tuple, some .dict]
def PP.clB (p : PP) (c : PCl) : Bool := c.cl.exc || (
  clsB K (He.ga K c.name) && insB K (He.ga K c.name) &&
  (c.cl.ms.all fun q => He.eqO (PySem.W.findIn K (.ref (He.ga K c.name)) q.1) (some (some (.ref (p.fa K q.2)))) && PySem.W.isFn K (.ref (p.fa K q.2)) && PySem.W.keepIn K (.ref (p.fa K q.2)) && (p.ds[q.2]?).isSome) &&
  (match c.cl.init with
    | none => true
    | some f => PySem.W.makesIn K (He.ga K c.name) && He.eqO (PySem.W.findIn K (.ref (He.ga K c.name)) "__init__") (some (some (.ref (p.fa K f)))) && PySem.W.isFn K (.ref (p.fa K f)) && PySem.W.keepIn K (.ref (He.ga K c.name)) && (p.ds[f]?).isSome) &&
  (match c.cl.strm with
    | none => true
    | some f => He.eqO (PySem.W.findIn K (.ref (He.ga K c.name)) "__str__") (some (some (.ref (p.fa K f)))) && PySem.W.isFn K (.ref (p.fa K f)) && (p.ds[f]?).isSome) &&
  (match c.cl.eqm with
    | none => true
    | some f => He.eqO (PySem.W.findIn K (.ref (He.ga K c.name)) "__eq__") (some (some (.ref (p.fa K f)))) && PySem.W.isFn K (.ref (p.fa K f)) && He.eqO (PySem.W.findIn K (.ref (He.ga K c.name)) "__ne__") (some (some (.builtin "object.__ne__"))) && (p.ds[f]?).isSome) &&
  (c.cl.flds.all fun f => He.eqO (PySem.W.findIn K (.ref (He.ga K c.name)) f) (some none)) &&
  (tys.all fun t => decide (PySem.W.kitOne K (.ref (He.ga K c.name)) (.type (tyS (some t))) = some false)) &&
  (tagsAll.all fun o => decide (PySem.W.kitOne K (.type (tyS o)) (.ref (He.ga K c.name)) = some false)))
def statB (d : PD) : Bool := match d.stat, d.at_.2 with
  | true, some m => He.eqO (PySem.W.specialIn K (.ref (He.ga K d.at_.1)) "__getattribute__") (some (some (.builtin "type.__getattribute__"))) && decide (PySem.W.typeIn K (.ref (He.ga K d.at_.1)) = some (.type "type")) && PySem.W.readsIn K (He.ga K d.at_.1) (.type "type") &&
      He5.wrapB K (He.ga K d.at_.1) "staticmethod" "staticmethod.__get__" m && He.eqO (PySem.W.nsIn K mainGlobals d.at_.1) (some (some (.ref (He.ga K d.at_.1))))
  | _, _ => true
/-- a class of errors with an attribute -/
def xc0B (C : Addr) : Bool := PySem.W.excIn K C PySem.HandSPX.veTail "ValueError.__new__" && PySem.W.keepIn K (.ref C) && decide (PySem.W.subIn K (.ref C) (.type "BaseException") = some true) && decide (PySem.W.typeIn K (.ref C) = some (.type "type"))
def PP.xcB (p : PP) (c : PCl) : Bool := match c.cl.xf with
  | none => !c.cl.exc || xc0B K (He.ga K c.name)
  | some f => xfB K (He.ga K c.name) && He.eqO (PySem.W.findIn K (.ref (He.ga K c.name)) f) (some none) && oexB K (He.ga K c.name) && (match c.cl.xi with
    | none => false
    | some i => He.eqO (PySem.W.findIn K (.ref (He.ga K c.name)) "__init__") (some (some (.ref (p.fa K i)))) && decide (PySem.W.typeIn K (.ref (p.fa K i)) = some (.type "function")) && (match p.ds[i]? with
      | some d => d.initB f
      | none => false))
def PP.chkX (p : PP) : Bool := (p.cs.all fun c => p.xcB K c) &&
  ((numb 0 p.cs).all fun x => (numb 0 p.cs).all fun y => !x.2.cl.exc || !y.2.cl.exc || decide (PySem.W.exmOne K (.ref (He.ga K x.2.name)) (.ref (He.ga K y.2.name)) = some (x.2.cl.sups.contains y.1)))
/-- everything that K is to tell -/
def PP.chk0 (p : PP) : Bool :=
  (p.ds.all fun d => d.okB K && (!d.at_.2.isNone || (!d.stat && He.eqO (PySem.W.nsIn K mainGlobals d.at_.1) (some (some (.ref (He.ga K d.at_.1)))))) && statB K d) &&
  (p.cs.all fun c => He.eqO (PySem.W.nsIn K mainGlobals c.name) (some (some (.ref (He.ga K c.name)))) && p.clB K c) &&
  ((numb 0 p.cs).all fun x => (numb 0 p.cs).all fun y => x.2.cl.exc || y.2.cl.exc || decide (PySem.W.kitOne K (.ref (He.ga K x.2.name)) (.ref (He.ga K y.2.name)) = some (decide (x.1 = y.1)))) &&
  (p.ks.all fun q => kvB q.2 (PySem.W.nsIn K mainGlobals q.1)) &&
  (p.bi.all fun n => He.eqO (PySem.W.nsIn K mainGlobals n) (some none))
def PP.kyB (p : PP) : Bool := p.ky.all fun q => decide (PySem.W.kitOne K (.ref (p.ca K q.1)) (match q.2 with
  | some d => .ref (p.ca K d)
  | none => .type "ValueError") = some true)
def PP.chk (p : PP) : Bool := p.chk0 K && p.chkX K && ((K.lookup sysModules).isSome && p.kyB K)
end
/-- what is wanted of the text alone -/
def excOk (c : PCl) : Bool := !c.cl.exc || (c.cl.init.isNone && c.cl.ms.isEmpty && c.cl.flds.isEmpty && c.cl.strm.isNone && c.cl.eqm.isNone)
def PP.txt (p : PP) : Bool := p.cs.all fun c => excOk c
def BindOk (d : PD) : Prop := ∀ (kV doc pm : Value) (an : Option Addr) (cdv ct : Value) (us : List Value), us.length = (psOf d.st).length → bindArgs (PySem.W.fnOf (dName d.st) d.qual (defArgs d.st) (defBody d.st) (defScope d.st) .none kV doc pm an cdv ct) ⟨us, []⟩ = pure ((psOf d.st).zip us)
theorem look_filter {α : Type} {f : Nat × PD → Option (α × Nat)} [BEq α] [LawfulBEq α] : ∀ {l : List (Nat × PD)} {n : α} {i : Nat}, (l.filterMap f).lookup n = some i → ∃ q ∈ l, f q = some (n, i)
  | [], n, i, h => by cases h
  | q :: r, n, i, h => by
    rw [List.filterMap_cons] at h
    cases e : f q with
    | none =>
      rw [e] at h
      obtain ⟨q', m, e'⟩ := look_filter h
      exact ⟨q', List.mem_cons_of_mem _ m, e'⟩
    | some z =>
      rw [e] at h
      obtain ⟨a, j⟩ := z
      by_cases en : n = a
      · subst en
        simp only [List.lookup_cons_self] at h
        cases h
        exact ⟨q, List.mem_cons_self, e⟩
      · simp only [List.lookup_cons, show (n == a) = false from beq_eq_false_iff_ne.mpr en] at h
        obtain ⟨q', m, e'⟩ := look_filter h
        exact ⟨q', List.mem_cons_of_mem _ m, e'⟩
theorem look_map {α β γ : Type} [BEq α] [LawfulBEq α] {f : β → α × γ} : ∀ {l : List β} {n : α} {i : γ}, (l.map f).lookup n = some i → ∃ q ∈ l, f q = (n, i)
  | [], n, i, h => by cases h
  | q :: r, n, i, h => by
    rw [List.map_cons] at h
    cases e : f q with
    | mk a j =>
      rw [e] at h
      by_cases en : n = a
      · subst en
        simp only [List.lookup_cons_self] at h
        cases h
        exact ⟨q, List.mem_cons_self, e⟩
      · simp only [List.lookup_cons, show (n == a) = false from beq_eq_false_iff_ne.mpr en] at h
        obtain ⟨q', m, e'⟩ := look_map h
        exact ⟨q', List.mem_cons_of_mem _ m, e'⟩
theorem mem_of_look' {α β : Type} [BEq α] [LawfulBEq α] {n : α} {v : β} : ∀ {l : List (α × β)}, l.lookup n = some v → (n, v) ∈ l := fun {l} h => by
  have := look_map (f := id) (l := l) (by simpa using h)
  obtain ⟨q, m, e⟩ := this
  rw [← show q = (n, v) from e]
  exact m
section
variable {p : PP} {K : PySem.W.Frag} {mg : Str → Option Value} {h : Heap}
theorem prg_of (X : K.In h) (G : h.Ns mainGlobals mg) (c : p.chk K = true) (t : p.txt = true) (vals : ∀ d ∈ p.ds, fnX K (fAt K d) = d.val) (hb : ∀ d ∈ p.ds, BindOk d) : Prg p.gi (p.ad K) K mg := by
  unfold PP.chk at c
  rw [Bool.and_eq_true, Bool.and_eq_true] at c
  obtain ⟨⟨c, cx⟩, cm⟩ := c
  rw [Bool.and_eq_true] at cm
  obtain ⟨cm, ck⟩ := cm
  unfold PP.chk0 at c
  unfold PP.chkX at cx
  simp only [Bool.and_eq_true, List.all_eq_true] at c cx
  obtain ⟨cx1, cx2⟩ := cx
  obtain ⟨⟨⟨⟨c1, c2⟩, c3⟩, c4⟩, c5⟩ := c
  unfold PP.txt at t
  simp only [Bool.and_eq_true, List.all_eq_true] at t
  have mg_ref : ∀ {x : Str} {a : Addr}, He.eqO (PySem.W.nsIn K mainGlobals x) (some (some (.ref a))) = true → mg x = some (.ref a) := fun e => PySem.W.mg_of X G (He.eqO_ok e)
  have dsAt : ∀ {f : Nat}, (p.gi.pg.fs f).isSome = true → ∃ d, p.ds[f]? = some d ∧ d ∈ p.ds ∧ p.fa K f = fAt K d := fun {f} hs => by
    obtain ⟨df, e⟩ := Option.isSome_iff_exists.mp hs
    have e : p.ds[f]?.map (·.df) = some df := e
    cases q : p.ds[f]? with
    | none => rw [q] at e; cases e
    | some d => exact ⟨d, rfl, List.mem_of_getElem? q, by unfold PP.fa; rw [q]; rfl⟩
  have fsSome : ∀ {f : Nat}, (p.ds[f]?).isSome = true → (p.gi.pg.fs f).isSome = true := fun {f} hs => by
    show (p.ds[f]?.map (·.df)).isSome = true
    rw [Option.isSome_map]
    exact hs
  have csAt : ∀ {d : Nat} {k : Cl}, p.gi.pg.cs d = some k → ∃ cl, p.cs[d]? = some cl ∧ cl ∈ p.cs ∧ cl.cl = k ∧ p.ca K d = He.ga K cl.name := fun {d k} e => by
    have e : p.cs[d]?.map (·.cl) = some k := e
    cases q : p.cs[d]? with
    | none => rw [q] at e; cases e
    | some cl => rw [q] at e; exact ⟨cl, rfl, List.mem_of_getElem? q, Option.some.inj e, by unfold PP.ca; rw [q]; rfl⟩
  have good : ∀ {cl : PCl}, cl ∈ p.cs → cl.cl.exc = false → clsB K (He.ga K cl.name) = true ∧ insB K (He.ga K cl.name) = true ∧
      (∀ q ∈ cl.cl.ms, He.eqO (PySem.W.findIn K (.ref (He.ga K cl.name)) q.1) (some (some (.ref (p.fa K q.2)))) = true ∧ PySem.W.isFn K (.ref (p.fa K q.2)) = true ∧ PySem.W.keepIn K (.ref (p.fa K q.2)) = true ∧ (p.ds[q.2]?).isSome = true) ∧
      (∀ f, cl.cl.init = some f → PySem.W.makesIn K (He.ga K cl.name) = true ∧ He.eqO (PySem.W.findIn K (.ref (He.ga K cl.name)) "__init__") (some (some (.ref (p.fa K f)))) = true ∧ PySem.W.isFn K (.ref (p.fa K f)) = true ∧ PySem.W.keepIn K (.ref (He.ga K cl.name)) = true ∧ (p.ds[f]?).isSome = true) ∧
      (∀ f, cl.cl.strm = some f → He.eqO (PySem.W.findIn K (.ref (He.ga K cl.name)) "__str__") (some (some (.ref (p.fa K f)))) = true ∧ PySem.W.isFn K (.ref (p.fa K f)) = true ∧ (p.ds[f]?).isSome = true) ∧
      (∀ f, cl.cl.eqm = some f → He.eqO (PySem.W.findIn K (.ref (He.ga K cl.name)) "__eq__") (some (some (.ref (p.fa K f)))) = true ∧ PySem.W.isFn K (.ref (p.fa K f)) = true ∧ He.eqO (PySem.W.findIn K (.ref (He.ga K cl.name)) "__ne__") (some (some (.builtin "object.__ne__"))) = true ∧ (p.ds[f]?).isSome = true) ∧
      (∀ f ∈ cl.cl.flds, He.eqO (PySem.W.findIn K (.ref (He.ga K cl.name)) f) (some none) = true) ∧
      (∀ t ∈ tys, PySem.W.kitOne K (.ref (He.ga K cl.name)) (.type (tyS (some t))) = some false) ∧ (∀ o ∈ tagsAll, PySem.W.kitOne K (.type (tyS o)) (.ref (He.ga K cl.name)) = some false) := fun {cl} m he => by
    have := (c2 cl m).2
    unfold PP.clB at this
    rw [he, Bool.false_or] at this
    simp only [Bool.and_eq_true, List.all_eq_true, decide_eq_true_eq] at this
    obtain ⟨⟨⟨⟨⟨⟨⟨⟨a1, a2⟩, a3⟩, a4⟩, a8⟩, a9⟩, a5⟩, a6⟩, a7⟩ := this
    refine ⟨a1, a2, fun q m => let ⟨⟨⟨b1, b2⟩, b3⟩, b4⟩ := a3 q m; ⟨b1, b2, b3, b4⟩, fun f e => ?_, fun f e => ?_, fun f e => ?_, a5, a6, a7⟩
    · rw [e] at a4
      simp only [Bool.and_eq_true] at a4
      obtain ⟨⟨⟨⟨b1, b2⟩, b3⟩, b4⟩, b5⟩ := a4
      exact ⟨b1, b2, b3, b4, b5⟩
    · rw [e] at a8
      simp only [Bool.and_eq_true] at a8
      exact ⟨a8.1.1, a8.1.2, a8.2⟩
    · rw [e] at a9
      simp only [Bool.and_eq_true] at a9
      exact ⟨a9.1.1.1, a9.1.1.2, a9.1.2, a9.2⟩
  have clsOf : ∀ {C : Addr}, clsB K C = true → Cls K C := fun {C} e => by
    unfold clsB at e
    simp only [Bool.and_eq_true] at e
    exact ⟨e.1, e.2.1, e.2.2.1, He.eqO_ok e.2.2.2⟩
  have notExc : ∀ {cl : PCl}, cl ∈ p.cs → (cl.cl.init ≠ none ∨ cl.cl.ms ≠ [] ∨ cl.cl.flds ≠ [] ∨ cl.cl.strm ≠ none ∨ cl.cl.eqm ≠ none) → cl.cl.exc = false := fun {cl} m hn => by
    have := t cl m
    unfold excOk at this
    cases e : cl.cl.exc with
    | false => rfl
    | true =>
      rw [e] at this
      simp only [Bool.not_true, Bool.false_or, Bool.and_eq_true, List.isEmpty_iff, Option.isNone_iff_eq_none] at this
      rcases hn with hn | hn | hn | hn | hn
      · exact absurd this.1.1.1.1 hn
      · exact absurd this.1.1.1.2 hn
      · exact absurd this.1.1.2 hn
      · exact absurd this.1.2 hn
      · exact absurd this.2 hn
  have dOf : ∀ {f : Nat} {d : PD}, (f, d) ∈ numb 0 p.ds → p.ds[f]? = some d ∧ d ∈ p.ds ∧ p.fa K f = fAt K d := fun {f d} m => by
    have e := (numb_mem m).2
    rw [Nat.sub_zero] at e
    exact ⟨e, List.mem_of_getElem? e, by unfold PP.fa; rw [e]; rfl⟩
  have clOkAt : ∀ {d : Nat}, clOk p.gi.pg d = true → ∃ cl, p.cs[d]? = some cl ∧ cl ∈ p.cs ∧ cl.cl.exc = false ∧ p.ca K d = He.ga K cl.name := fun {d} e => by
    unfold clOk at e
    cases q : p.gi.pg.cs d with
    | none => rw [q] at e; cases e
    | some k =>
      rw [q] at e
      obtain ⟨cl, h1, h2, h3, h4⟩ := csAt q
      refine ⟨cl, h1, h2, ?_, h4⟩
      rw [h3]
      simpa using e
  have okd : ∀ {d : PD}, d ∈ p.ds → d.okB K = true := fun {d} m => (c1 d m).1.1
  have kpd : ∀ {d : PD}, d ∈ p.ds → PySem.W.keepIn K (.ref (fAt K d)) = true := fun {d} m => by
    have := okd m
    unfold PD.okB at this
    rw [Bool.and_eq_true] at this
    exact this.1
  constructor
  case gf =>
    intro n f e
    obtain ⟨⟨j, d⟩, m, e2⟩ := look_filter e
    simp only at e2
    split at e2
    · rename_i hn
      cases e2
      obtain ⟨h1, h2, h3⟩ := dOf m
      have := (c1 d h2).1.2
      rw [hn] at this
      simp only [Bool.not_true, Bool.false_or, Bool.and_eq_true, Bool.not_eq_true'] at this
      have e4 : (p.ad K).fa f = He.ga K d.at_.1 := by
        show p.fa K f = _
        rw [h3]
        unfold fAt He.fAd
        rw [this.1]
        cases q : d.at_.2 with
        | none => rfl
        | some z => rw [q] at hn; cases hn
      rw [e4]
      exact mg_ref this.2
    · cases e2
  case kp =>
    intro f hs
    obtain ⟨d, h1, h2, h3⟩ := dsAt hs
    show PySem.W.keepIn K (.ref (p.fa K f)) = true
    rw [h3]
    exact kpd h2
  case binds =>
    intro f hs
    obtain ⟨d, h1, h2, h3⟩ := dsAt hs
    have e : p.gi.pn f = psOf d.st := by
      show (p.ds[f]?.map fun d => psOf d.st).getD [] = _
      rw [h1]
      rfl
    have e2 : (p.ad K).fd f = fdAt K (fAt K d) := by
      show fdAt K (p.fa K f) = _
      rw [h3]
    rw [e, e2]
    exact FunD.bindsN (PD.funD (vals d h2) (okd h2)) (hb d h2)
  case gc =>
    intro n d e
    obtain ⟨⟨j, cl⟩, m, e2⟩ := look_map e
    cases e2
    have e3 := (numb_mem m).2
    rw [Nat.sub_zero] at e3
    have e4 : (p.ad K).ca j = He.ga K cl.name := by
      show p.ca K j = _
      unfold PP.ca
      rw [e3]
      rfl
    rw [e4]
    exact mg_ref (c2 cl (List.mem_of_getElem? e3)).1
  case mkc =>
    intro d f e
    obtain ⟨k, e1, e2⟩ := Option.bind_eq_some_iff.mp e
    obtain ⟨cl, h1, h2, h3, h4⟩ := csAt e1
    subst h3
    have he := notExc h2 (.inl (by rw [e2]; simp))
    obtain ⟨g1, g2, g3, g4, g8, g9, g5, g6, g7⟩ := good h2 he
    obtain ⟨b1, b2, b3, b4, b5⟩ := g4 f e2
    have e4 : (p.ad K).ca d = He.ga K cl.name := h4
    rw [e4]
    exact ⟨⟨b1, He.eqO_ok b2, b3, b4⟩, clsOf g1, fsSome b5⟩
  case mts =>
    intro d m f e
    obtain ⟨k, e1, e2⟩ := Option.bind_eq_some_iff.mp e
    obtain ⟨cl, h1, h2, h3, h4⟩ := csAt e1
    subst h3
    have hm := mem_of_look' e2
    have he := notExc h2 (.inr (.inl (fun z => by rw [z] at hm; cases hm)))
    obtain ⟨g1, g2, g3, g4, g8, g9, g5, g6, g7⟩ := good h2 he
    obtain ⟨b1, b2, b3, b4⟩ := g3 _ hm
    have e4 : (p.ad K).ca d = He.ga K cl.name := h4
    rw [e4]
    exact ⟨⟨He.eqO_ok b1, b2, b3⟩, fsSome b4⟩
  case stm =>
    intro d f e
    obtain ⟨k, e1, e2⟩ := Option.bind_eq_some_iff.mp e
    obtain ⟨cl, h1, h2, h3, h4⟩ := csAt e1
    subst h3
    have he := notExc h2 (.inr (.inr (.inr (.inl (by rw [e2]; simp)))))
    obtain ⟨g1, g2, g3, g4, g8, g9, g5, g6, g7⟩ := good h2 he
    obtain ⟨b1, b2, b3⟩ := g8 f e2
    have e4 : (p.ad K).ca d = He.ga K cl.name := h4
    rw [e4]
    exact ⟨He.eqO_ok b1, b2, fsSome b3⟩
  case gk =>
    intro n v e
    have := c4 _ (mem_of_look' e)
    unfold kvB at this
    simp only at this
    cases q : PySem.W.nsIn K mainGlobals n with
    | none => rw [q] at this; cases this
    | some o =>
      cases o with
      | none => rw [q] at this; cases this
      | some u =>
        rw [q] at this
        rw [Bool.and_eq_true] at this
        exact ⟨this.1, u, PySem.W.mg_of X G q, He.relB_ok this.2⟩
  case bi =>
    intro n e
    have m : n ∈ p.bi := List.contains_iff_mem.mp e
    exact PySem.W.mg_none_of X G (He.eqO_ok (c5 n m))
  case sm =>
    intro n m f e
    obtain ⟨⟨j, d⟩, mem, e2⟩ := look_filter e
    simp only at e2
    split at e2
    · rename_i m2 hs hm
      cases e2
      obtain ⟨h1, h2, h3⟩ := dOf mem
      have sb := (c1 d h2).2
      unfold statB at sb
      rw [hs, hm] at sb
      simp only [Bool.and_eq_true, decide_eq_true_eq] at sb
      obtain ⟨⟨⟨⟨s1, s2⟩, s3⟩, s4⟩, s5⟩ := sb
      obtain ⟨w1, rest, w2⟩ := He5.wrapB_ok s4
      have e4 : (p.ad K).fa f = He5.wf K (He.ga K d.at_.1) "staticmethod" m := by
        show p.fa K f = _
        rw [h3]
        unfold fAt
        rw [hs, hm]
      have k4 := kpd h2
      rw [← h3] at k4
      refine ⟨He.ga K d.at_.1, mg_ref s5, ⟨He.eqO_ok s1, s2, s3, ⟨_, rest, w1, ?_⟩, k4⟩⟩
      rw [e4]
      exact w2
    · cases e2
  case eqs =>
    intro d f e
    obtain ⟨k, e1, e2⟩ := Option.bind_eq_some_iff.mp e
    obtain ⟨cl, h1, h2, h3, h4⟩ := csAt e1
    subst h3
    have he := notExc h2 (.inr (.inr (.inr (.inr (by rw [e2]; simp)))))
    obtain ⟨g1, g2, g3, g4, g8, g9, g5, g6, g7⟩ := good h2 he
    obtain ⟨b1, b2, b3, b4⟩ := g9 f e2
    have e4 : (p.ad K).ca d = He.ga K cl.name := h4
    rw [e4]
    have e5 : PySem.W.mroIn K (He.ga K cl.name) (.type "object") = some true := by
      unfold insB at g2
      simp only [Bool.and_eq_true, decide_eq_true_eq] at g2
      exact g2.2
    exact ⟨He.eqO_ok b1, b2, He.eqO_ok b3, e5, fsSome b4⟩
  case mods => exact cm
  case ky1 =>
    intro c d e
    have := of_decide_eq_true (List.all_eq_true.mp ck _ (List.contains_iff_mem.mp e))
    exact this
  case ky2 =>
    intro c e
    have := of_decide_eq_true (List.all_eq_true.mp ck _ (List.contains_iff_mem.mp e))
    exact this
  case gcd =>
    intro d k e
    obtain ⟨cl, h1, h2, h3, h4⟩ := csAt e
    refine ⟨cl.name, List.mem_map.mpr ⟨(d, cl), ?_, rfl⟩⟩
    have := mem_numb (n := 0) h1
    rwa [Nat.zero_add] at this
  case isf =>
    constructor
    case ins =>
      intro d hd
      obtain ⟨cl, h1, h2, h3, h4⟩ := clOkAt hd
      obtain ⟨g1, g2, g3, g4, g8, g9, g5, g6, g7⟩ := good h2 h3
      have e4 : (p.ad K).ca d = He.ga K cl.name := h4
      rw [e4]
      unfold insB at g2
      simp only [Bool.and_eq_true, decide_eq_true_eq] at g2
      exact ⟨clsOf g1, He.eqO_ok g2.1.1.1, He.eqO_ok g2.1.1.2, g2.1.2, g2.2⟩
    case cb =>
      intro d hd t ht
      obtain ⟨cl, h1, h2, h3, h4⟩ := clOkAt hd
      obtain ⟨g1, g2, g3, g4, g8, g9, g5, g6, g7⟩ := good h2 h3
      have e4 : (p.ad K).ca d = He.ga K cl.name := h4
      rw [e4]
      exact g6 t ht
    case bc =>
      intro o ho d hd
      obtain ⟨cl, h1, h2, h3, h4⟩ := clOkAt hd
      obtain ⟨g1, g2, g3, g4, g8, g9, g5, g6, g7⟩ := good h2 h3
      have e4 : (p.ad K).ca d = He.ga K cl.name := h4
      rw [e4]
      exact g7 o ho
    case cc =>
      intro a ha b hb2
      obtain ⟨cl, h1, h2, h3, h4⟩ := clOkAt ha
      obtain ⟨cl2, k1, k2, k3, k4⟩ := clOkAt hb2
      have e4 : (p.ad K).ca a = He.ga K cl.name := h4
      have e5 : (p.ad K).ca b = He.ga K cl2.name := k4
      have m1 := mem_numb (n := 0) h1
      have m2 := mem_numb (n := 0) k1
      rw [Nat.zero_add] at m1 m2
      have := c3 _ m1 _ m2
      rw [h3, k3] at this
      simp only [Bool.false_or, decide_eq_true_eq] at this
      rw [e4, e5]
      exact this
  case fld =>
    intro d k f e hf
    obtain ⟨cl, h1, h2, h3, h4⟩ := csAt e
    subst h3
    have hm : f ∈ cl.cl.flds := List.contains_iff_mem.mp hf
    have he := notExc h2 (.inr (.inr (.inl (fun z => by rw [z] at hm; cases hm))))
    obtain ⟨g1, g2, g3, g4, g8, g9, g5, g6, g7⟩ := good h2 he
    have e4 : (p.ad K).ca d = He.ga K cl.name := h4
    rw [e4]
    exact He.eqO_ok (g5 f hm)
  case xne => exact fun a => rfl
  case xcs =>
    intro c f e
    obtain ⟨k, e1, e2⟩ := Option.bind_eq_some_iff.mp e
    obtain ⟨cl, h1, h2, h3, h4⟩ := csAt e1
    subst h3
    have e4 : (p.ad K).ca c = He.ga K cl.name := h4
    have cb := cx1 cl h2
    unfold PP.xcB at cb
    rw [e2] at cb
    simp only [Bool.and_eq_true] at cb
    obtain ⟨⟨⟨b1, b2⟩, b3⟩, b4⟩ := cb
    cases hi : cl.cl.xi with
    | none => rw [hi] at b4; cases b4
    | some i =>
      rw [hi] at b4
      simp only [Bool.and_eq_true, decide_eq_true_eq] at b4
      obtain ⟨⟨b5, b6⟩, b7⟩ := b4
      cases hd : p.ds[i]? with
      | none => rw [hd] at b7; cases b7
      | some d =>
        rw [hd] at b7
        have hdm : d ∈ p.ds := List.mem_of_getElem? hd
        have e5 : p.fa K i = fAt K d := by unfold PP.fa; rw [hd]; rfl
        have e6 : p.gi.pn i = psOf d.st := by
          show (p.ds[i]?.map fun d => psOf d.st).getD [] = _
          rw [hd]
          rfl
        refine ⟨i, Option.bind_eq_some_iff.mpr ⟨_, e1, hi⟩, fsSome (by rw [hd]; rfl), ?_⟩
        have F := PD.funD (vals d hdm) (okd hdm)
        rw [e4, e6]
        refine ⟨xfB_ok b1, He.eqO_ok b2, oexB_ok b3, He.eqO_ok b5, b6, fun CX P w mg base => ?_⟩
        unfold PD.initB at b7
        rw [Bool.and_eq_true] at b7
        obtain ⟨sc, s1, s2⟩ := PD.sc b7.1
        obtain ⟨oc, od, dV, kV, doc, pm, an, cdv, ct, osl, efd, lk, hcd, _, _⟩ := F.ex
        have e7 : (p.ad K).fd i = PySem.W.fnOf (dName d.st) d.qual (defArgs d.st) (defBody d.st) (defScope d.st) dV kV doc pm an cdv ct := by
          show fdAt K (p.fa K i) = _
          rw [e5]
          exact efd
        have e8 : (p.ad K).fa i = fAt K d := e5
        rw [e7, e8]
        rw [efd] at lk
        have b8 := b7.2
        split at b8
        · rename_i n1 p1 f' p2 n2 p3 pos m1 m2 hbody hN
          simp only [Bool.and_eq_true, decide_eq_true_eq, Bool.not_eq_true'] at b8
          obtain ⟨⟨⟨⟨⟨⟨⟨⟨⟨q1, q2⟩, q3⟩, q4⟩, q5⟩, q6⟩, q7⟩, q8⟩, q9⟩, q10⟩ := b8
          subst q1 q2 q3
          rw [q4]
          rw [hbody] at lk ⊢
          rw [hN, q4] at sc
          exact fn_init lk hcd sc q5 q6 q7 q8 q9 q10
        · cases b8
  case xc0 =>
    intro c k e1 he hx
    obtain ⟨cl, h1, h2, h3, h4⟩ := csAt e1
    subst h3
    have e4 : (p.ad K).ca c = He.ga K cl.name := h4
    have cb := cx1 cl h2
    unfold PP.xcB at cb
    rw [hx, he] at cb
    simp only [Bool.not_true, Bool.false_or, xc0B, Bool.and_eq_true, decide_eq_true_eq] at cb
    rw [e4]
    exact ⟨cb.1.1.1, cb.1.1.2, cb.1.2, cb.2⟩
  case exm =>
    intro a c b e hc
    obtain ⟨k, e1, e2⟩ := Option.bind_eq_some_iff.mp e
    obtain ⟨cl, h1, h2, h3, h4⟩ := csAt e1
    subst h3
    cases q : p.gi.pg.cs c with
    | none => rw [q] at hc; cases hc
    | some k2 =>
      rw [q] at hc
      obtain ⟨cl2, k1, k3, k4, k5⟩ := csAt q
      subst k4
      have hc : cl2.cl.exc = true := by simpa using hc
      split at e2
      · rename_i he
        have m1 := mem_numb (n := 0) h1
        have m2 := mem_numb (n := 0) k1
        rw [Nat.zero_add] at m1 m2
        have z := cx2 _ m1 _ m2
        rw [he, hc] at z
        simp only [Bool.not_true, Bool.false_or, decide_eq_true_eq] at z
        have e4 : (p.ad K).ca a = He.ga K cl.name := h4
        have e5 : (p.ad K).ca c = He.ga K cl2.name := k5
        rw [e4, e5, z]
        exact e2
      · cases e2
end
end PI
end

section
set_option Elab.async false
set_option linter.all false
set_option maxRecDepth 100000
/-! PyM5: calls by the depth; the law. -/
namespace PI
open PySem PySem.Spec PyProof.Rows L2 TL RZ
def PP.defsB (p : PP) : Bool := p.ds.all fun d => d.scB && mTs p.gi d.df.body ⟨d.N, defScope d.st, defScope d.st⟩ (defBody d.st)
def PP.g (p : PP) (d : Nat) : G := ⟨callN p.gi.pg p.wf d, p.gi.pg, none, p.wf⟩
section
variable {p : PP} {K : PySem.W.Frag} {mg : Str → Option Value} {P : Program} {w : World} {base : Heap}
theorem few_call (d f n : Nat) (df : Df) (h : p.gi.pg.fs f = some df) (hn : n = df.np) : Few (callN p.gi.pg p.wf d f) n := by
  intro xs s hx
  cases d with
  | zero => rfl
  | succ d =>
    unfold callN
    rw [h]
    simp only
    rw [if_neg (by omega)]
theorem cls_all (pr : Prg p.gi (p.ad K) K mg) (hd : p.defsB = true) (fn : ∀ d ∈ p.ds, FunD K (dName d.st) d.qual (defArgs d.st) (defBody d.st) (defScope d.st) [] [] (fAt K d) (fdAt K (fAt K d))) :
    ∀ d, Cls1 p.gi (p.ad K) (p.g d) (3 * d) P w K mg base := by
  unfold PP.defsB at hd
  rw [List.all_eq_true] at hd
  have at_ : ∀ {f : Nat}, (p.gi.pg.fs f).isSome = true → ∃ e, p.ds[f]? = some e ∧ e ∈ p.ds ∧ p.fa K f = fAt K e ∧ p.gi.pg.fs f = some e.df ∧ p.gi.pn f = psOf e.st ∧ (p.ad K).fd f = fdAt K (fAt K e) := fun {f} hs => by
    obtain ⟨df, e⟩ := Option.isSome_iff_exists.mp hs
    have e' : p.ds[f]?.map (·.df) = some df := e
    cases q : p.ds[f]? with
    | none => rw [q] at e'; cases e'
    | some d =>
      have hfa : p.fa K f = fAt K d := by unfold PP.fa; rw [q]; rfl
      refine ⟨d, rfl, List.mem_of_getElem? q, hfa, ?_, ?_, ?_⟩
      · show p.ds[f]?.map (·.df) = _
        rw [q]; rfl
      · show (p.ds[f]?.map fun d => psOf d.st).getD [] = _
        rw [q]; rfl
      · show fdAt K (p.fa K f) = _
        rw [hfa]
  intro d
  induction d with
  | zero =>
    intro f hs
    obtain ⟨e, h1, h2, h3, h4, h5, h6⟩ := at_ hs
    obtain ⟨k1, k2⟩ := Bool.and_eq_true_iff.mp (hd e h2)
    obtain ⟨sc, s1, s2⟩ := PD.sc k1
    rw [h5]
    refine ⟨⟨fun vs H Q E h => h.1, fun A outer sh H args us vs Q E _ _ _ _ _ h => ?_⟩, few_call 0 f _ e.df h4 s1⟩
    obtain ⟨_, rho, s, xs, _, _, q⟩ := h
    exact q.elim
  | succ d ih =>
    intro f hs
    obtain ⟨e, h1, h2, h3, h4, h5, h6⟩ := at_ hs
    obtain ⟨k1, k2⟩ := Bool.and_eq_true_iff.mp (hd e h2)
    obtain ⟨sc, s1, s2⟩ := PD.sc k1
    rw [h5]
    refine ⟨?_, few_call (d + 1) f _ e.df h4 s1⟩
    have F := fn e h2
    obtain ⟨oc, od, dV, kV, doc, pm, an, cdv, ct, osl, efd, lk, hcd, _, _⟩ := F.ex
    have e6 : (p.ad K).fd f = PySem.W.fnOf (dName e.st) e.qual (defArgs e.st) (defBody e.st) (defScope e.st) dV kV doc pm an cdv ct := h6.trans efd
    have e7 : (p.ad K).fa f = fAt K e := h3
    rw [e6, e7]
    rw [efd] at lk
    refine fn_callN (kk := 3 * d + 2) h4 lk hcd sc s1 s2 fun A outer sh H E hr hg => ?_
    refine mts_sound (gi := p.gi) (ad := p.ad K) (g := p.g d) (k := 3 * d) e.df.body ⟨e.N, defScope e.st, defScope e.st⟩ _ _ _ ?_ ⟨passes_of rfl, rfl, rfl⟩ k2
    refine ⟨rfl, rfl, sc.nd, fun _ _ => rfl, rfl, hr, guards_deeper.trans hg, takes_of rfl rfl rfl rfl, pr, rfl, ih, ?_⟩
    intro Y q1 q2 q3 q4 q5 q6 q7
    refine more_of (k := 3 * d) q7 (fun c f hs => ?_) (fun c f hs => ?_) (by rw [q3]; exact pr.mods) (by rw [q6]; exact hr) (by rw [q6]; exact guards_deeper.trans hg)
    · obtain ⟨z1, z2, z3⟩ := pr.stm c f hs
      obtain ⟨z4, z5⟩ := ih f z3
      refine ⟨(p.ad K).fa f, (p.ad K).fd f, p.gi.pn f, ?_, ?_, ?_, ?_, z5⟩
      · rw [q3]; exact z1
      · rw [q3]; exact z2
      · rw [q1, q2, q3, q4, q5]; exact z4
      · rw [q3]; exact pr.binds f z3
    obtain ⟨z1, z2, y1, y2, z3⟩ := pr.eqs c f hs
    obtain ⟨z4, z5⟩ := ih f z3
    refine ⟨(p.ad K).fa f, (p.ad K).fd f, p.gi.pn f, ?_, ?_, ?_, ?_, ?_, ?_, z5⟩
    · rw [q3]; exact z1
    · rw [q3]; exact z2
    · rw [q3]; exact y1
    · rw [q3]; exact y2
    · rw [q1, q2, q3, q4, q5]; exact z4
    · rw [q3]; exact pr.binds f z3
end
end PI
end

section
set_option Elab.async false
set_option linter.all false
set_option maxRecDepth 100000
/-! PyM6: the law's end. -/
namespace PI
open PySem PySem.Spec PyProof.Rows L2 TL RZ
section
variable {P : Program} {w : World} {K : PySem.W.Frag} {mg mb : Str → Option Value} {k : Nat} {fa a : Addr} {fd : FuncData} {x : Str} {sp : Sp} {st : Shared} {vs : List Value} {ns : List Int}
/-- what the law's call wants of an abstract heap -/
structure Beg (K : PySem.W.Frag) (st : Shared) (a : Addr) (ns : List Int) (P : Program) (w : World) (H : Hp) : Prop where
  only : Only H
  sq : SqL K H a (ns.map V.int)
  ok : HOk P w H st.heap
  one : ∀ b, H b ≠ none → b = a
  kn : H a ≠ none → K.lookup a = none
theorem beg_of (KX : K.In st.heap) (ha : st.heap.get? a = some { cls := .type "list", data := .seq vs.toArray }) (hi : IntsAre vs ns) (hl : ns.length ≤ sizeLine) : ∃ H, Beg K st a ns P w H := by
  have rv : Vals (ns.map V.int) vs := vals_ints hi
  have hv : vs.length = ns.length := hi.length
  cases hk : K.lookup a with
  | some o =>
    have eo := KX a o hk
    rw [ha] at eo
    cases eo
    refine ⟨fun _ => none, fun _ => .inl rfl, .inr ⟨_, vs.toArray, _, hk, rfl, rfl, rfl, ?_, by simpa using rv⟩, ?_, ?_, ?_⟩
    · rw [List.size_toArray, hv]
      exact hl
    · intro b u z
      cases (show (none : Option HO) = some u from z)
    · exact fun b z => absurd rfl z
    · exact fun z => absurd rfl z
  | none =>
    generalize hob : ({ cls := .type "list", data := .seq vs.toArray } : Obj) = ob at ha
    refine ⟨fun b => if b = a then some (.frz ob (.lst (ns.map V.int))) else none, fun b => ?_, .inl (.inr ⟨ob, if_pos rfl⟩), fun b u z => ?_, fun b z => ?_, fun _ => hk⟩
    · by_cases e : b = a
      · exact .inr ⟨ob, _, if_pos e⟩
      · exact .inl (if_neg e)
    · by_cases e : b = a
      · have q := (if_pos e).symm.trans z
        cases q
        subst e
        refine ⟨ha, by rw [List.length_map]; exact hl, vs, 0, rv, ?_⟩
        rw [ha, ← hob]
      · have q := (if_neg e).symm.trans z
        cases q
    · apply Classical.byContradiction
      intro e
      exact z (if_neg e)
theorem law_run (KX : K.In st.heap) (hns : st.heap.Ns mainGlobals mg) (hb : st.heap.Ns builtinsNs mb) (hbb : ∀ y : Str, y ≠ "__name__" → mb y = bootBuiltins y) (hlim : st.heap.NoLimit) (hg : st.gens = #[])
    (ha : st.heap.get? a = some { cls := .type "list", data := .seq vs.toArray }) (hi : IntsAre vs ns) (hl : ns.length ≤ sizeLine) (hr : Room k callerA)
    (F : ∀ base : Heap, K.In base → base.Ns mainGlobals mg → FnG P w K mg base k fa fd [x] sp) (hbind : ∀ (s : Shared) (u : Value), BindsTo s fd ⟨[u], []⟩ [(x, u)])
    (hsp : ∀ H : Hp, Only H → SqL K H a (ns.map V.int) → sp [.ref a] H (fun v _ => v = .bl true) fun _ _ _ => False) :
    codeAny (model P w) callerA (.call (.ref fa) ⟨[.ref a], []⟩) (fun r s' => r = .ok (.ret (.bool true)) ∧ OldK st.heap s'.heap ∧ s'.os = st.os ∧ AllBare s'.gens) st := by
  obtain ⟨H, B⟩ := beg_of (P := P) (w := w) KX ha hi hl
  have keepH : ∀ {b : Addr} {o : Obj}, st.heap.get? b = some o → H b = none → (hidT st.heap H).get? b = some o := fun e n => hidT_get e n
  have free : ∀ {b : Addr}, b ≠ a → H b = none := fun {b} n => Classical.byContradiction fun z => n (B.one b z)
  have dicts : ∀ {b : Addr} {o : Obj} {es : Array DictEntry} {ep : Nat}, st.heap.get? b = some o → o.data = .dict es ep → H b = none := fun {b o es ep} e hd => free fun z => by
    rw [z, ha] at e
    cases e
    have hd' : Data.seq vs.toArray _ = Data.dict es ep := hd
    cases hd'
  have ns' : ∀ {b : Addr} {m : Str → Option Value}, st.heap.Ns b m → (hidT st.heap H).Ns b m := fun {b m} ⟨o, es, ep, e, hd, r⟩ => ⟨o, es, ep, keepH e (dicts e hd), hd, r⟩
  have kb : K.In (hidT st.heap H) := fun b o e => keepH (KX b o e) (by
    by_cases z : H b = none
    · exact z
    · have e2 := B.one b z
      rw [e2] at z e
      rw [B.kn z] at e
      cases e)
  obtain ⟨mc, c1, c2⟩ := hlim
  have md : Mod K mg (hidT st.heap H) := ⟨kb, ns' hns, ⟨mb, ns' hb, hbb⟩, ⟨mc, ns' c1, c2⟩⟩
  have e0 : Env0 P w K mg (hidT st.heap H) callerA [] st H := by
    refine ⟨rfl, md, fun b o e => of_hidT e, Nat.le_of_eq (hidT_size _ _), trivial, fun b z => ?_, B.ok, .of_eq hg⟩
    cases (show b ∈ ([] : List Addr) from z)
  have run := (F _ kb (ns' hns)).run callerA [] st H ⟨[.ref a], []⟩ [.ref a] [.ref a] _ _ hr rfl e0 (hbind st (.ref a)) (.cons rfl .nil) (hsp H B.only B.sq)
  refine codeAny_mono run fun r s' q => ?_
  match r, q with
  | .error e, q => obtain ⟨_, _, _, _, _, _, _, _, _, _, _, _, z⟩ := q; exact z.elim
  | .ok .next, q => exact q.elim
  | .ok .brk, q => exact q.elim
  | .ok .cont, q => exact q.elim
  | .ok (.ret u), q =>
    obtain ⟨v, H', os, bare, un, ok', ru, ev⟩ := q
    have ev : v = .bl true := ev
    rw [ev] at ru
    have eu : u = Value.bool true := ru
    refine ⟨by rw [eu], OldK.of_keep fun b o e => ?_, os, bare⟩
    rcases B.only b with z | ⟨ob, xs, z⟩
    · exact un.keep b o e z (fun m => by cases (show b ∈ ([] : List Addr) from m)) (by simp)
    · have z2 := un.frzs b ob _ z
      have q1 := (B.ok b _ z).1
      have q2 := (ok' b _ z2).1
      rw [e] at q1
      cases q1
      exact q2
end
/-- a law, from a def's promise -/
theorem walk_ofG {l : PySem.W.OpenLaw} {n k : Nat} {q : Program} {loose : List Str} {XP : (Str → Option Value) → Heap → Prop} {YP : World → Heap → Prop} {d : DefRec} {x : Str} (hn : l.most = some n) (hn2 : n ≤ sizeLine) (hdf : d.params.defaults = []) (hr : Room k callerA)
    (F : ∀ (w : World) (mg : Str → Option Value) (fa : Addr) (h : Heap), YP w h → h.Ns mainGlobals mg → mg d.name = some (.ref fa) →
      ∃ (K : PySem.W.Frag) (fd : FuncData) (sp : Sp), K.In h ∧ (∀ (s : Shared) (u : Value), BindsTo s fd ⟨[u], []⟩ [(x, u)]) ∧ (∀ (H : Hp) (a : Addr) (ns : List Int), ns.length ≤ n → Only H → SqL K H a (ns.map V.int) → sp [.ref a] H (fun v _ => v = .bl true) fun _ _ _ => False) ∧
        ∀ base : Heap, K.In base → base.Ns mainGlobals mg → FnG l.prog w K mg base k fa fd [x] sp) :
    PySem.W.WalkO q loose XP YP l.row.toRowW d [] (fun f vs => PySem.call f vs) := by
  refine Att.attach_call hn hdf fun w s0 s1 mg mb fa o pm cd doc a vs ns G Y ho hd hcd hmg hobj hints hlen hg => ?_
  obtain ⟨K, fd, sp, kx, hbd, hsp, hF⟩ := F w mg fa _ Y G.T.g hmg
  exact law_run kx G.T.g G.T.b G.T.builtins G.T.nolimit hg hobj hints (Nat.le_trans hlen hn2) hr hF hbd fun H hO hS => hsp H a ns hlen hO hS
/-! ### the head's hook -/
abbrev ObP : Type := Bool × List He.FnW
def obP (p : PP) (K : PySem.W.Frag) : ObP := (p.chk K, p.ds.map fun d => fnX K (fAt K d))
def valP (p : PP) : ObP := (true, p.ds.map PD.val)
def Says (p : PP) (K : PySem.W.Frag) : Prop := obP p K = valP p
def obG (n : Nat) (p : PP) (get : Addr → Option Obj) : ObP := obP p (He.frG get (He.asD get n ++ [cStatics, sysModules]))
def hookP (n : Nat) (p : PP) : PySem.W.Hook where
  α := ObP
  obs := fun s => obG n p s.heap.get?
  val := fun _ => valP p
  says := fun _ h => ∃ K : PySem.W.Frag, K.In h ∧ Says p K
  of := fun _ _ e => ⟨_, He.frG_in, e⟩
  keeps := fun _ _ _ ⟨K, hK, c⟩ hk => ⟨K, PySem.W.Frag.In.keeps hK hk, c⟩
theorem obG_eq {n : Nat} {p : PP} {get : Addr → Option Obj} {s : Shared} (h : ∀ a, get a = s.heap.get? a) : obG n p get = (hookP n p).obs s := by
  have e : get = s.heap.get? := funext h
  rw [e]
  rfl
theorem map_all {α β : Type} {f g : α → β} : ∀ {l : List α}, l.map f = l.map g → ∀ x ∈ l, f x = g x
  | [], _, x, m => by cases m
  | y :: r, h, x, m => by
    simp only [List.map_cons, List.cons.injEq] at h
    rcases List.mem_cons.mp m with e | m
    · rw [e]; exact h.1
    · exact map_all h.2 x m
/-- all binders bind -/
def AllB : List PD → Prop
  | [] => True
  | d :: r => BindOk d ∧ AllB r
theorem allB_mem : ∀ {l : List PD}, AllB l → ∀ d ∈ l, BindOk d
  | [], _, d, m => by cases m
  | e :: r, h, d, m => by
    rcases List.mem_cons.mp m with z | z
    · rw [z]; exact h.1
    · exact allB_mem h.2 d z
/-- THE LAW: the interpreter's answer is the program's -/
theorem law_F {p : PP} {l : PySem.W.OpenLaw} {n dep fl : Nat} {x nm : Str} {dl : PD} (hlaw : p.ds[fl]? = some dl) (hps : psOf dl.st = [x]) (hat : dl.at_ = (nm, none)) (hst : dl.stat = false) (ht : p.txt = true) (hd : p.defsB = true) (hb : AllB p.ds)
    (hrun : ∀ ns : List Int, ns.length ≤ n → runs p.gi.pg p.wf dep fl ns = true)
    (w : World) (mg : Str → Option Value) (fa : Addr) (h : Heap) (Y : ∃ K : PySem.W.Frag, K.In h ∧ Says p K) (G : h.Ns mainGlobals mg) (hmg : mg nm = some (.ref fa)) :
    ∃ (K : PySem.W.Frag) (fd : FuncData) (sp : Sp), K.In h ∧ (∀ (s : Shared) (u : Value), BindsTo s fd ⟨[u], []⟩ [(x, u)]) ∧ (∀ (H : Hp) (a : Addr) (ns : List Int), ns.length ≤ n → Only H → SqL K H a (ns.map V.int) → sp [.ref a] H (fun v _ => v = .bl true) fun _ _ _ => False) ∧
        ∀ base : Heap, K.In base → base.Ns mainGlobals mg → FnG l.prog w K mg base (3 * dep) fa fd [x] sp := by
  obtain ⟨K, KX, c⟩ := Y
  have c1 : p.chk K = true := congrArg (fun z : ObP => z.1) c
  have c2 : ∀ d ∈ p.ds, fnX K (fAt K d) = d.val := map_all (congrArg (fun z : ObP => z.2) c)
  have okd : ∀ d ∈ p.ds, d.okB K = true := by
    have := (Bool.and_eq_true_iff.mp (Bool.and_eq_true_iff.mp c1).1).1
    unfold PP.chk0 at this
    simp only [Bool.and_eq_true, List.all_eq_true] at this
    exact fun d m => (this.1.1.1.1 d m).1.1
  have fn := fun d m => PD.funD (c2 d m) (okd d m)
  have pr := prg_of KX G c1 ht c2 (allB_mem hb)
  have mem : dl ∈ p.ds := List.mem_of_getElem? hlaw
  have hfa : p.fa K fl = fAt K dl := by unfold PP.fa; rw [hlaw]; rfl
  have hs : (p.gi.pg.fs fl).isSome = true := by
    show (p.ds[fl]?.map (·.df)).isSome = true
    rw [hlaw]; rfl
  have hpn : p.gi.pn fl = [x] := by
    show (p.ds[fl]?.map fun d => psOf d.st).getD [] = _
    rw [hlaw]
    exact hps
  have efa : fa = fAt K dl := by
    have e := (prg_of KX G c1 ht c2 (allB_mem hb)).gf
    have c3 := (Bool.and_eq_true_iff.mp (Bool.and_eq_true_iff.mp c1).1).1
    unfold PP.chk0 at c3
    simp only [Bool.and_eq_true, List.all_eq_true] at c3
    have c4 := (c3.1.1.1.1 dl mem).1.2
    rw [hat] at c4
    simp only [Option.isNone_none, Bool.not_true, Bool.false_or, Bool.and_eq_true] at c4
    have e5 := PySem.W.mg_of KX G (He.eqO_ok c4.2)
    rw [hmg] at e5
    have e6 : fa = He.ga K nm := by simpa using e5
    rw [e6]
    unfold fAt He.fAd
    rw [hat, hst]
  have b := FunD.bindsA (ps := [x]) (fn dl mem) (by have := allB_mem hb dl mem; unfold BindOk at this; rw [hps] at this; exact this)
  refine ⟨K, (p.ad K).fd fl, SpI K (p.ad K).ca p.gi.xn (callN p.gi.pg p.wf dep fl) 1, KX, fun s u => ?_, fun H a ns hl hO hS => ?_, fun base _ _ => ?_⟩
  · have e2 : (p.ad K).fd fl = fdAt K (fAt K dl) := by
      show fdAt K (p.fa K fl) = _
      rw [hfa]
    rw [e2]
    exact b s [u] rfl
  · refine ⟨rfl, [], ⟨[], 0⟩, [.lst (ns.map .int)], ⟨rfl, List.nodup_nil, fun i o a e => by simp at e⟩, ?_, ?_⟩
    · refine VRs.one ?_
      simp only [VR]
      refine ⟨a, ns.map V.int, rfl, ?_, ?_⟩
      · rcases hS with (z | z) | z
        · rcases hO a with q | ⟨o, xs, q⟩
          · rw [q] at z; cases z
          · rw [q] at z; cases z
        · exact .inl z
        · exact .inr z
      · clear hS hl
        induction ns with
        | nil => simp [VRs]
        | cons i r ih =>
          simp only [List.map_cons, VRs]
          exact ⟨_, _, rfl, by simp [VR], ih⟩
    · have hr := hrun ns hl
      unfold runs at hr
      split at hr
      · rename_i s' e
        rw [e]
        intro rho' H' _ _ u hu
        exact hu.bl_of
      · cases hr
  · have := (cls_all (P := l.prog) (w := w) (mg := mg) (base := base) pr hd fn dep fl hs).1
    rw [hpn] at this
    rw [efa, ← hfa]
    exact this
end PI
end

section
set_option Elab.async false
set_option linter.all false
set_option maxRecDepth 100000
set_option maxHeartbeats 0
namespace PI
open PySem PySem.Spec PyProof.Rows L2 TL RZ
abbrev P : PySem.Program := PySem.Challenge.pw_duewalk_k02_texts_of_sites_judged
def topS (i : Nat) : PySem.Stmt := P.main.body.getD i (.Pass ⟨0, 0, 0, 0⟩)
def bodyS : PySem.Stmt → List PySem.Stmt
  | .ClassDef _ _ _ b _ _ _ _ _ _ _ => b
  | _ => []
def methS (i j : Nat) : PySem.Stmt := (bodyS (topS i)).getD j (.Pass ⟨0, 0, 0, 0⟩)
abbrev D_InvalidText___init__ : PD := ⟨("InvalidText", some "__init__"), false, methS 2 0, "InvalidText.__init__", (["self", "row"] : List PySem.Str), d_InvalidText___init__⟩
abbrev D_is_name : PD := ⟨("is_name", none), false, topS 10, "is_name", (["value", "letter"] : List PySem.Str), d_is_name⟩
abbrev D_read_figure : PD := ⟨("read_figure", none), false, topS 11, "read_figure", (["word", "least", "most"] : List PySem.Str), d_read_figure⟩
abbrev D_read_ways : PD := ⟨("read_ways", none), false, topS 12, "read_ways", (["words", "name", "ends", "found", "at", "end", "steps"] : List PySem.Str), d_read_ways⟩
abbrev D_read_row : PD := ⟨("read_row", none), false, topS 13, "read_row", (["row", "firsts", "place", "words", "name", "may_stay", "ways", "limit", "rest"] : List PySem.Str), d_read_row⟩
abbrev D_read_rows : PD := ⟨("read_rows", none), false, topS 14, "read_rows", (["text", "firsts", "rows", "found", "place", "row", "told"] : List PySem.Str), d_read_rows⟩
abbrev D_written : PD := ⟨("written", none), false, topS 15, "written", (["told", "words", "name", "limit", "may_stay", "ways", "end", "steps"] : List PySem.Str), d_written⟩
abbrev D_Site___init__ : PD := ⟨("Site", some "__init__"), false, methS 16 0, "Site.__init__", (["self", "rows", "told"] : List PySem.Str), d_Site___init__⟩
abbrev D_Site_parse : PD := ⟨("Site", some "parse"), true, methS 16 1, "Site.parse", (["text"] : List PySem.Str), d_Site_parse⟩
abbrev D_Site___str__ : PD := ⟨("Site", some "__str__"), false, methS 16 2, "Site.__str__", (["self"] : List PySem.Str), d_Site___str__⟩
abbrev D_Site___eq__ : PD := ⟨("Site", some "__eq__"), false, methS 16 3, "Site.__eq__", (["self", "other"] : List PySem.Str), d_Site___eq__⟩
abbrev D__law_feed : PD := ⟨("_law_feed", none), false, topS 18, "_law_feed", (["script", "k", "cell", "digits", "state"] : List PySem.Str), d__law_feed⟩
abbrev D__law_take : PD := ⟨("_law_take", none), false, topS 19, "_law_take", (["feed", "many", "digit"] : List PySem.Str), d__law_take⟩
abbrev D__law_pick : PD := ⟨("_law_pick", none), false, topS 20, "_law_pick", (["feed", "some"] : List PySem.Str), d__law_pick⟩
abbrev D__law_word : PD := ⟨("_law_word", none), false, topS 21, "_law_word", (["feed", "found", "turn"] : List PySem.Str), d__law_word⟩
abbrev D__law_drawn : PD := ⟨("_law_drawn", none), false, topS 22, "_law_drawn", (["feed", "names", "name", "found", "many", "ends", "ways", "may_stay", "one", "end", "turn"] : List PySem.Str), d__law_drawn⟩
abbrev D__law_row : PD := ⟨("_law_row", none), false, topS 23, "_law_row", (["told", "words", "name", "limit", "may_stay", "ways", "end", "steps"] : List PySem.Str), d__law_row⟩
abbrev D__law_text : PD := ⟨("_law_text", none), false, topS 24, "_law_text", (["rows", "told"] : List PySem.Str), d__law_text⟩
abbrev D__law_is_name : PD := ⟨("_law_is_name", none), false, topS 25, "_law_is_name", (["word", "sign"] : List PySem.Str), d__law_is_name⟩
abbrev D__law_are_ways : PD := ⟨("_law_are_ways", none), false, topS 26, "_law_are_ways", (["words", "name", "firsts", "last", "at", "end"] : List PySem.Str), d__law_are_ways⟩
abbrev D__law_is_row : PD := ⟨("_law_is_row", none), false, topS 27, "_law_is_row", (["row", "firsts", "place", "words", "rest"] : List PySem.Str), d__law_is_row⟩
abbrev D__law_bad_row : PD := ⟨("_law_bad_row", none), false, topS 28, "_law_bad_row", (["text", "rows", "firsts", "place", "row"] : List PySem.Str), d__law_bad_row⟩
abbrev D__law_said : PD := ⟨("_law_said", none), false, topS 29, "_law_said", (["text", "told", "error", "good"] : List PySem.Str), d__law_said⟩
abbrev D__law_other_row : PD := ⟨("_law_other_row", none), false, topS 30, "_law_other_row", (["feed", "rows", "at", "place", "odd", "one", "lists", "words", "firsts", "ahead", "behind", "row"] : List PySem.Str), d__law_other_row⟩
abbrev D__law_spoilt : PD := ⟨("_law_spoilt", none), false, topS 31, "_law_spoilt", (["feed", "text", "signs", "rows", "case", "at", "place", "more"] : List PySem.Str), d__law_spoilt⟩
abbrev D_law : PD := ⟨("law", none), false, topS 32, "law", (["script", "deep", "turn", "value", "k", "feed", "text", "more", "due"] : List PySem.Str), d_law⟩
def ds : List PD := ([D_InvalidText___init__, D_is_name, D_read_figure, D_read_ways, D_read_row, D_read_rows, D_written, D_Site___init__, D_Site_parse, D_Site___str__, D_Site___eq__, D__law_feed, D__law_take, D__law_pick, D__law_word, D__law_drawn] : List PD) ++ ([D__law_row, D__law_text, D__law_is_name, D__law_are_ways, D__law_is_row, D__law_bad_row, D__law_said, D__law_other_row, D__law_spoilt, D_law] : List PD)
def cs : List PCl := [⟨"WalkError", ⟨true, none, [], none, none, [], [C_WalkError], none, none⟩⟩, ⟨"InvalidText", ⟨true, none, [], none, none, [], [C_InvalidText, C_WalkError], some "row", some F_InvalidText___init__⟩⟩, ⟨"Site", ⟨false, some F_Site___init__, [], some F_Site___eq__, some F_Site___str__, ["text", "names", "limits", "stays", "ways"], [], none, none⟩⟩]
def ks : List (PySem.Str × Val) := [("DIGITS", (Val.str [48, 49, 50, 51, 52, 53, 54, 55, 56, 57])), ("LETTERS", (Val.str [97, 98, 99, 100, 101, 102, 103, 104, 105, 106, 107, 108, 109, 110, 111, 112, 113, 114, 115, 116, 117, 118, 119, 120, 121, 122])), ("MAX_LIMIT", (Val.int 9)), ("MAX_NAME", (Val.int 8)), ("MAX_PLACES", (Val.int 6)), ("MAX_STEPS", (Val.int 3))]
def bi : List PySem.Str := (["ValueError", "abs", "all", "enumerate", "int", "isinstance", "len", "list", "max", "min", "range", "repr", "set", "sorted", "staticmethod", "str"] : List PySem.Str) ++ (["tuple"] : List PySem.Str)
def p : PP := ⟨ds, cs, ks, bi, wfA, [(C_InvalidText, some C_InvalidText), (C_InvalidText, none)]⟩
theorem pg_eq : p.gi.pg = pgA := by
  show Pg.mk _ _ = Pg.mk _ _
  congr 1
  · funext i
    exact (List.getElem?_map).symm.trans (congrArg (fun l : List Df => l[i]?) (show List.map (·.df) ds = fsA from rfl))
  · funext i
    exact (List.getElem?_map).symm.trans (congrArg (fun l : List Cl => l[i]?) (show List.map (·.cl) cs = csA from rfl))
theorem defs_ok : p.defsB = true := by decide +kernel
theorem txt_ok : p.txt = true := by decide +kernel
end PI
end

section
set_option Elab.async false
set_option linter.all false
set_option maxRecDepth 100000
set_option maxHeartbeats 0
namespace PI
open PySem PySem.Spec PyProof.Rows L2 TL RZ
theorem b_InvalidText___init__ : BindOk D_InvalidText___init__ := fun _ _ _ _ _ _ us hl => match us, hl with | [_, _], _ => rfl
theorem b_is_name : BindOk D_is_name := fun _ _ _ _ _ _ us hl => match us, hl with | [_], _ => rfl
theorem b_read_figure : BindOk D_read_figure := fun _ _ _ _ _ _ us hl => match us, hl with | [_, _, _], _ => rfl
theorem b_read_ways : BindOk D_read_ways := fun _ _ _ _ _ _ us hl => match us, hl with | [_, _, _], _ => rfl
theorem b_read_row : BindOk D_read_row := fun _ _ _ _ _ _ us hl => match us, hl with | [_, _, _], _ => rfl
theorem b_read_rows : BindOk D_read_rows := fun _ _ _ _ _ _ us hl => match us, hl with | [_], _ => rfl
theorem b_written : BindOk D_written := fun _ _ _ _ _ _ us hl => match us, hl with | [_], _ => rfl
theorem b_Site___init__ : BindOk D_Site___init__ := fun _ _ _ _ _ _ us hl => match us, hl with | [_, _], _ => rfl
theorem b_Site_parse : BindOk D_Site_parse := fun _ _ _ _ _ _ us hl => match us, hl with | [_], _ => rfl
theorem b_Site___str__ : BindOk D_Site___str__ := fun _ _ _ _ _ _ us hl => match us, hl with | [_], _ => rfl
theorem b_Site___eq__ : BindOk D_Site___eq__ := fun _ _ _ _ _ _ us hl => match us, hl with | [_, _], _ => rfl
theorem b__law_feed : BindOk D__law_feed := fun _ _ _ _ _ _ us hl => match us, hl with | [_, _], _ => rfl
theorem b__law_take : BindOk D__law_take := fun _ _ _ _ _ _ us hl => match us, hl with | [_, _], _ => rfl
theorem b__law_pick : BindOk D__law_pick := fun _ _ _ _ _ _ us hl => match us, hl with | [_, _], _ => rfl
theorem b__law_word : BindOk D__law_word := fun _ _ _ _ _ _ us hl => match us, hl with | [_], _ => rfl
theorem b__law_drawn : BindOk D__law_drawn := fun _ _ _ _ _ _ us hl => match us, hl with | [_], _ => rfl
theorem b__law_row : BindOk D__law_row := fun _ _ _ _ _ _ us hl => match us, hl with | [_], _ => rfl
theorem b__law_text : BindOk D__law_text := fun _ _ _ _ _ _ us hl => match us, hl with | [_], _ => rfl
theorem b__law_is_name : BindOk D__law_is_name := fun _ _ _ _ _ _ us hl => match us, hl with | [_], _ => rfl
theorem b__law_are_ways : BindOk D__law_are_ways := fun _ _ _ _ _ _ us hl => match us, hl with | [_, _, _], _ => rfl
theorem b__law_is_row : BindOk D__law_is_row := fun _ _ _ _ _ _ us hl => match us, hl with | [_, _, _], _ => rfl
theorem b__law_bad_row : BindOk D__law_bad_row := fun _ _ _ _ _ _ us hl => match us, hl with | [_], _ => rfl
theorem b__law_said : BindOk D__law_said := fun _ _ _ _ _ _ us hl => match us, hl with | [_], _ => rfl
theorem b__law_other_row : BindOk D__law_other_row := fun _ _ _ _ _ _ us hl => match us, hl with | [_, _, _], _ => rfl
theorem b__law_spoilt : BindOk D__law_spoilt := fun _ _ _ _ _ _ us hl => match us, hl with | [_, _], _ => rfl
theorem b_law : BindOk D_law := fun _ _ _ _ _ _ us hl => match us, hl with | [_], _ => rfl
theorem binds : AllB p.ds := ⟨b_InvalidText___init__, b_is_name, b_read_figure, b_read_ways, b_read_row, b_read_rows, b_written, b_Site___init__, b_Site_parse, b_Site___str__, b_Site___eq__, b__law_feed, b__law_take, b__law_pick, b__law_word, b__law_drawn, b__law_row, b__law_text, b__law_is_name, b__law_are_ways, b__law_is_row, b__law_bad_row, b__law_said, b__law_other_row, b__law_spoilt, b_law, trivial⟩
abbrev Rw : PySem.W.OpenRow := PySem.W.OpenLaw.row PySem.Challenge.rw_duewalk_k02_texts_of_sites_judged
def names : List PySem.Str := (["WalkError", "InvalidText", "LETTERS", "MAX_NAME", "MAX_PLACES", "MAX_LIMIT", "MAX_STEPS", "DIGITS", "is_name", "read_figure", "read_ways", "read_row", "read_rows", "written", "Site", "_law_feed"] : List PySem.Str) ++ (["_law_take", "_law_pick", "_law_word", "_law_drawn", "_law_row", "_law_text", "_law_is_name", "_law_are_ways", "_law_is_row", "_law_bad_row", "_law_said", "_law_other_row", "_law_spoilt"] : List PySem.Str)
abbrev hk : PySem.W.Hook := hookP 6 p
def ob (s : PySem.W.SharedT) : ObP := obG 6 p (HandSHeadRun.getT s)
theorem ob_eq (s : PySem.W.SharedT) : ob s = hk.obs s.abs := obG_eq (HandSHeadRun.getT_eq s)
theorem run (w : World) : HandSHeadRun.RunEq Rw (PySem.W.view Rw.prog [32]) hk ob 20000 names w := by
  intro os
  kernel_rfl
end PI
end

section
set_option Elab.async false
set_option linter.all false
set_option maxRecDepth 100000
set_option maxHeartbeats 0
namespace PI
open PySem PySem.W PySem.Calls PyProof.Rows
theorem ends (math : ∀ ns : List Int, ns.length ≤ 63 → runs pgA wfA 8 F_law ns = true) : PySem.Challenge.rw_duewalk_k02_texts_of_sites_judged.Holds := by
  rw [← pg_eq] at math
  w_on; o_law
  refine HandSHeadRun.head_any (r := Rw) (q := view Rw.prog [32]) (H := hk) (ob := ob) (M := 20000) (loose := names) (d := HandSHeadRun.topDef Rw.prog 32) (kwd := []) ob_eq
    (by kernel_rfl) (fun s => by kernel_rfl) run (by kernel_rfl) (by kernel_rfl) (by kernel_rfl) (by rfl) (by first | assumption | decide +kernel) (by decide +kernel) ⟨rfl, rfl, rfl, rfl, rfl, by decide +kernel⟩ ?hw ?hc
  case hw => w_witness2
  case hc =>
    refine PI.walk_ofG (l := PySem.Challenge.rw_duewalk_k02_texts_of_sites_judged) (n := 63) (k := 3 * 8) (x := "script") rfl (by decide) (by kernel_rfl) ⟨rfl, by decide, by decide⟩ ?F
    intro w mg fa h Y G hmg0
    have hmg : mg ("law" : PySem.Str) = some (.ref fa) := by
      have e : (HandSHeadRun.topDef Rw.prog 32).name = ("law" : PySem.Str) := by kernel_rfl
      rw [← e]
      exact hmg0
    exact law_F (p := p) (l := PySem.Challenge.rw_duewalk_k02_texts_of_sites_judged) (n := 63) (dep := 8) (fl := F_law) (x := "script") (nm := "law") (dl := D_law) rfl (by kernel_rfl) rfl rfl txt_ok defs_ok binds math w mg fa h Y G hmg
end PI
end

theorem PySem.Challenge.cw_duewalk_k02_texts_of_sites_judged_holds : PySem.Challenge.rw_duewalk_k02_texts_of_sites_judged.Holds :=
  PI.ends fun _ h => PI.MX.law_ok h
